import PyProof.Rows.All
import Wide.All
import OpenK.AllK
import Wide.FinOn
import Lean
import PySem.Challenge.RW_pq0294_01
section
open PySem PySem.W PyProof.Rows
set_option Elab.async false
set_option maxRecDepth 100000
set_option maxHeartbeats 0
namespace Mine
namespace Hd
set_option linter.all false
noncomputable abbrev pw:Program:=PySem.Challenge.pw_pq0294_01
noncomputable def T (k:Nat):Stmt:=(pw.main.body[k]?).getD default
noncomputable def C (k j:Nat):Stmt:=match T k with | .ClassDef _ _ _ b _ _ _ _ _ _ _=>(b[j]?).getD default | _=>default
noncomputable def fD (st:Stmt) (q:Str) (d pm cd:Value):FuncData:=match st with
  | .FunctionDef n a b _ _ _ sc _ _ _=>{ name:=n,qualname:=q,params:=a,body:=.stmts b,scope:=sc,globals:=3,closure:=[],defaults:=d,kwdefaults:=.none,pyModule:=pm,code:=cd }
  | _=>default
noncomputable def f0 (st:Stmt) (q:Str):FuncData:=match st with
  | .FunctionDef n a b _ _ _ sc _ _ _=>{ name:=n,qualname:=q,params:=a,body:=.stmts b,scope:=sc,globals:=0,closure:=[],defaults:=.none,kwdefaults:=.none }
  | _=>default
noncomputable def n:Value:=.none
noncomputable def b (x:Bool):Value:=.bool x
noncomputable def i (x:Int):Value:=.int x 0
noncomputable def s (x:Str) (t:Nat):Value:=.str x t
noncomputable def t (x:String):Value:=.type x
noncomputable def u (x:String):Value:=.builtin x
noncomputable def r (a:Nat):Value:=.ref a
noncomputable def k (P:Params) (x:Str) (t:Nat) (v:Value):DictEntry:=⟨PyData.keyHash P x,.str x t,v⟩
noncomputable abbrev N (o:Obj) (l r:BT):BT:=.node o l r
noncomputable abbrev L (o:Obj):BT:=.node o .nil .nil
noncomputable abbrev E:BT:=.nil
noncomputable section
noncomputable def z0:Str:=⟨⟨[95,95,110,97,109,101,95,95]⟩⟩
noncomputable def z1:Str:=⟨⟨[98,117,105,108,116,105,110,115]⟩⟩
noncomputable def z2:Str:=⟨⟨[95,95,100,111,99,95,95]⟩⟩
noncomputable def z3:Str:=⟨⟨[95,95,112,97,99,107,97,103,101,95,95]⟩⟩
noncomputable def z4:Str:=⟨⟨[95,95,108,111,97,100,101,114,95,95]⟩⟩
noncomputable def z5:Str:=⟨⟨[95,95,115,112,101,99,95,95]⟩⟩
noncomputable def z6:Str:=⟨⟨[95,95,98,117,105,108,100,95,99,108,97,115,115,95,95]⟩⟩
noncomputable def z7:Str:=⟨⟨[95,95,105,109,112,111,114,116,95,95]⟩⟩
noncomputable def z8:Str:=⟨⟨[97,98,115]⟩⟩
noncomputable def z9:Str:=⟨⟨[97,108,108]⟩⟩
noncomputable def z10:Str:=⟨⟨[97,110,121]⟩⟩
noncomputable def z11:Str:=⟨⟨[97,115,99,105,105]⟩⟩
noncomputable def z12:Str:=⟨⟨[98,105,110]⟩⟩
noncomputable def z13:Str:=⟨⟨[98,114,101,97,107,112,111,105,110,116]⟩⟩
noncomputable def z14:Str:=⟨⟨[99,97,108,108,97,98,108,101]⟩⟩
noncomputable def z15:Str:=⟨⟨[99,104,114]⟩⟩
noncomputable def z16:Str:=⟨⟨[99,111,109,112,105,108,101]⟩⟩
noncomputable def z17:Str:=⟨⟨[100,101,108,97,116,116,114]⟩⟩
noncomputable def z18:Str:=⟨⟨[100,105,114]⟩⟩
noncomputable def z19:Str:=⟨⟨[100,105,118,109,111,100]⟩⟩
noncomputable def z20:Str:=⟨⟨[101,118,97,108]⟩⟩
noncomputable def z21:Str:=⟨⟨[101,120,101,99]⟩⟩
noncomputable def z22:Str:=⟨⟨[102,111,114,109,97,116]⟩⟩
noncomputable def z23:Str:=⟨⟨[103,101,116,97,116,116,114]⟩⟩
noncomputable def z24:Str:=⟨⟨[103,108,111,98,97,108,115]⟩⟩
noncomputable def z25:Str:=⟨⟨[104,97,115,97,116,116,114]⟩⟩
noncomputable def z26:Str:=⟨⟨[104,97,115,104]⟩⟩
noncomputable def z27:Str:=⟨⟨[104,101,120]⟩⟩
noncomputable def z28:Str:=⟨⟨[105,100]⟩⟩
noncomputable def z29:Str:=⟨⟨[105,110,112,117,116]⟩⟩
noncomputable def z30:Str:=⟨⟨[105,115,105,110,115,116,97,110,99,101]⟩⟩
noncomputable def z31:Str:=⟨⟨[105,115,115,117,98,99,108,97,115,115]⟩⟩
noncomputable def z32:Str:=⟨⟨[105,116,101,114]⟩⟩
noncomputable def z33:Str:=⟨⟨[97,105,116,101,114]⟩⟩
noncomputable def z34:Str:=⟨⟨[108,101,110]⟩⟩
noncomputable def z35:Str:=⟨⟨[108,111,99,97,108,115]⟩⟩
noncomputable def z36:Str:=⟨⟨[109,97,120]⟩⟩
noncomputable def z37:Str:=⟨⟨[109,105,110]⟩⟩
noncomputable def z38:Str:=⟨⟨[110,101,120,116]⟩⟩
noncomputable def z39:Str:=⟨⟨[97,110,101,120,116]⟩⟩
noncomputable def z40:Str:=⟨⟨[111,99,116]⟩⟩
noncomputable def z41:Str:=⟨⟨[111,114,100]⟩⟩
noncomputable def z42:Str:=⟨⟨[112,111,119]⟩⟩
noncomputable def z43:Str:=⟨⟨[112,114,105,110,116]⟩⟩
noncomputable def z44:Str:=⟨⟨[114,101,112,114]⟩⟩
noncomputable def z45:Str:=⟨⟨[114,111,117,110,100]⟩⟩
noncomputable def z46:Str:=⟨⟨[115,101,116,97,116,116,114]⟩⟩
noncomputable def z47:Str:=⟨⟨[115,111,114,116,101,100]⟩⟩
noncomputable def z48:Str:=⟨⟨[115,117,109]⟩⟩
noncomputable def z49:Str:=⟨⟨[118,97,114,115]⟩⟩
noncomputable def z50:Str:=⟨⟨[78,111,110,101]⟩⟩
noncomputable def z51:Str:=⟨⟨[69,108,108,105,112,115,105,115]⟩⟩
noncomputable def z52:Str:=⟨⟨[78,111,116,73,109,112,108,101,109,101,110,116,101,100]⟩⟩
noncomputable def z53:Str:=⟨⟨[70,97,108,115,101]⟩⟩
noncomputable def z54:Str:=⟨⟨[84,114,117,101]⟩⟩
noncomputable def z55:Str:=⟨⟨[98,111,111,108]⟩⟩
noncomputable def z56:Str:=⟨⟨[109,101,109,111,114,121,118,105,101,119]⟩⟩
noncomputable def z57:Str:=⟨⟨[98,121,116,101,97,114,114,97,121]⟩⟩
noncomputable def z58:Str:=⟨⟨[98,121,116,101,115]⟩⟩
noncomputable def z59:Str:=⟨⟨[99,108,97,115,115,109,101,116,104,111,100]⟩⟩
noncomputable def z60:Str:=⟨⟨[99,111,109,112,108,101,120]⟩⟩
noncomputable def z61:Str:=⟨⟨[100,105,99,116]⟩⟩
noncomputable def z62:Str:=⟨⟨[101,110,117,109,101,114,97,116,101]⟩⟩
noncomputable def z63:Str:=⟨⟨[102,105,108,116,101,114]⟩⟩
noncomputable def z64:Str:=⟨⟨[102,108,111,97,116]⟩⟩
noncomputable def z65:Str:=⟨⟨[102,114,111,122,101,110,115,101,116]⟩⟩
noncomputable def z66:Str:=⟨⟨[112,114,111,112,101,114,116,121]⟩⟩
noncomputable def z67:Str:=⟨⟨[105,110,116]⟩⟩
noncomputable def z68:Str:=⟨⟨[108,105,115,116]⟩⟩
noncomputable def z69:Str:=⟨⟨[109,97,112]⟩⟩
noncomputable def z70:Str:=⟨⟨[111,98,106,101,99,116]⟩⟩
noncomputable def z71:Str:=⟨⟨[114,97,110,103,101]⟩⟩
noncomputable def z72:Str:=⟨⟨[114,101,118,101,114,115,101,100]⟩⟩
noncomputable def z73:Str:=⟨⟨[115,101,116]⟩⟩
noncomputable def z74:Str:=⟨⟨[115,108,105,99,101]⟩⟩
noncomputable def z75:Str:=⟨⟨[115,116,97,116,105,99,109,101,116,104,111,100]⟩⟩
noncomputable def z76:Str:=⟨⟨[115,116,114]⟩⟩
noncomputable def z77:Str:=⟨⟨[115,117,112,101,114]⟩⟩
noncomputable def z78:Str:=⟨⟨[116,117,112,108,101]⟩⟩
noncomputable def z79:Str:=⟨⟨[116,121,112,101]⟩⟩
noncomputable def z80:Str:=⟨⟨[122,105,112]⟩⟩
noncomputable def z81:Str:=⟨⟨[95,95,100,101,98,117,103,95,95]⟩⟩
noncomputable def z82:Str:=⟨⟨[66,97,115,101,69,120,99,101,112,116,105,111,110]⟩⟩
noncomputable def z83:Str:=⟨⟨[66,97,115,101,69,120,99,101,112,116,105,111,110,71,114,111,117,112]⟩⟩
noncomputable def z84:Str:=⟨⟨[69,120,99,101,112,116,105,111,110]⟩⟩
noncomputable def z85:Str:=⟨⟨[71,101,110,101,114,97,116,111,114,69,120,105,116]⟩⟩
noncomputable def z86:Str:=⟨⟨[75,101,121,98,111,97,114,100,73,110,116,101,114,114,117,112,116]⟩⟩
noncomputable def z87:Str:=⟨⟨[83,121,115,116,101,109,69,120,105,116]⟩⟩
noncomputable def z88:Str:=⟨⟨[65,114,105,116,104,109,101,116,105,99,69,114,114,111,114]⟩⟩
noncomputable def z89:Str:=⟨⟨[65,115,115,101,114,116,105,111,110,69,114,114,111,114]⟩⟩
noncomputable def z90:Str:=⟨⟨[65,116,116,114,105,98,117,116,101,69,114,114,111,114]⟩⟩
noncomputable def z91:Str:=⟨⟨[66,117,102,102,101,114,69,114,114,111,114]⟩⟩
noncomputable def z92:Str:=⟨⟨[69,79,70,69,114,114,111,114]⟩⟩
noncomputable def z93:Str:=⟨⟨[73,109,112,111,114,116,69,114,114,111,114]⟩⟩
noncomputable def z94:Str:=⟨⟨[76,111,111,107,117,112,69,114,114,111,114]⟩⟩
noncomputable def z95:Str:=⟨⟨[77,101,109,111,114,121,69,114,114,111,114]⟩⟩
noncomputable def z96:Str:=⟨⟨[78,97,109,101,69,114,114,111,114]⟩⟩
noncomputable def z97:Str:=⟨⟨[79,83,69,114,114,111,114]⟩⟩
noncomputable def z98:Str:=⟨⟨[82,101,102,101,114,101,110,99,101,69,114,114,111,114]⟩⟩
noncomputable def z99:Str:=⟨⟨[82,117,110,116,105,109,101,69,114,114,111,114]⟩⟩
noncomputable def z100:Str:=⟨⟨[83,116,111,112,65,115,121,110,99,73,116,101,114,97,116,105,111,110]⟩⟩
noncomputable def z101:Str:=⟨⟨[83,116,111,112,73,116,101,114,97,116,105,111,110]⟩⟩
noncomputable def z102:Str:=⟨⟨[83,121,110,116,97,120,69,114,114,111,114]⟩⟩
noncomputable def z103:Str:=⟨⟨[83,121,115,116,101,109,69,114,114,111,114]⟩⟩
noncomputable def z104:Str:=⟨⟨[84,121,112,101,69,114,114,111,114]⟩⟩
noncomputable def z105:Str:=⟨⟨[86,97,108,117,101,69,114,114,111,114]⟩⟩
noncomputable def z106:Str:=⟨⟨[87,97,114,110,105,110,103]⟩⟩
noncomputable def z107:Str:=⟨⟨[70,108,111,97,116,105,110,103,80,111,105,110,116,69,114,114,111,114]⟩⟩
noncomputable def z108:Str:=⟨⟨[79,118,101,114,102,108,111,119,69,114,114,111,114]⟩⟩
noncomputable def z109:Str:=⟨⟨[90,101,114,111,68,105,118,105,115,105,111,110,69,114,114,111,114]⟩⟩
noncomputable def z110:Str:=⟨⟨[66,121,116,101,115,87,97,114,110,105,110,103]⟩⟩
noncomputable def z111:Str:=⟨⟨[68,101,112,114,101,99,97,116,105,111,110,87,97,114,110,105,110,103]⟩⟩
noncomputable def z112:Str:=⟨⟨[69,110,99,111,100,105,110,103,87,97,114,110,105,110,103]⟩⟩
noncomputable def z113:Str:=⟨⟨[70,117,116,117,114,101,87,97,114,110,105,110,103]⟩⟩
noncomputable def z114:Str:=⟨⟨[73,109,112,111,114,116,87,97,114,110,105,110,103]⟩⟩
noncomputable def z115:Str:=⟨⟨[80,101,110,100,105,110,103,68,101,112,114,101,99,97,116,105,111,110,87,97,114,110,105,110,103]⟩⟩
noncomputable def z116:Str:=⟨⟨[82,101,115,111,117,114,99,101,87,97,114,110,105,110,103]⟩⟩
noncomputable def z117:Str:=⟨⟨[82,117,110,116,105,109,101,87,97,114,110,105,110,103]⟩⟩
noncomputable def z118:Str:=⟨⟨[83,121,110,116,97,120,87,97,114,110,105,110,103]⟩⟩
noncomputable def z119:Str:=⟨⟨[85,110,105,99,111,100,101,87,97,114,110,105,110,103]⟩⟩
noncomputable def z120:Str:=⟨⟨[85,115,101,114,87,97,114,110,105,110,103]⟩⟩
noncomputable def z121:Str:=⟨⟨[66,108,111,99,107,105,110,103,73,79,69,114,114,111,114]⟩⟩
noncomputable def z122:Str:=⟨⟨[67,104,105,108,100,80,114,111,99,101,115,115,69,114,114,111,114]⟩⟩
noncomputable def z123:Str:=⟨⟨[67,111,110,110,101,99,116,105,111,110,69,114,114,111,114]⟩⟩
noncomputable def z124:Str:=⟨⟨[70,105,108,101,69,120,105,115,116,115,69,114,114,111,114]⟩⟩
noncomputable def z125:Str:=⟨⟨[70,105,108,101,78,111,116,70,111,117,110,100,69,114,114,111,114]⟩⟩
noncomputable def z126:Str:=⟨⟨[73,110,116,101,114,114,117,112,116,101,100,69,114,114,111,114]⟩⟩
noncomputable def z127:Str:=⟨⟨[73,115,65,68,105,114,101,99,116,111,114,121,69,114,114,111,114]⟩⟩
noncomputable def z128:Str:=⟨⟨[78,111,116,65,68,105,114,101,99,116,111,114,121,69,114,114,111,114]⟩⟩
noncomputable def z129:Str:=⟨⟨[80,101,114,109,105,115,115,105,111,110,69,114,114,111,114]⟩⟩
noncomputable def z130:Str:=⟨⟨[80,114,111,99,101,115,115,76,111,111,107,117,112,69,114,114,111,114]⟩⟩
noncomputable def z131:Str:=⟨⟨[84,105,109,101,111,117,116,69,114,114,111,114]⟩⟩
noncomputable def z132:Str:=⟨⟨[73,110,100,101,110,116,97,116,105,111,110,69,114,114,111,114]⟩⟩
noncomputable def z133:Str:=⟨⟨[95,73,110,99,111,109,112,108,101,116,101,73,110,112,117,116,69,114,114,111,114]⟩⟩
noncomputable def z134:Str:=⟨⟨[73,110,100,101,120,69,114,114,111,114]⟩⟩
noncomputable def z135:Str:=⟨⟨[75,101,121,69,114,114,111,114]⟩⟩
noncomputable def z136:Str:=⟨⟨[77,111,100,117,108,101,78,111,116,70,111,117,110,100,69,114,114,111,114]⟩⟩
noncomputable def z137:Str:=⟨⟨[78,111,116,73,109,112,108,101,109,101,110,116,101,100,69,114,114,111,114]⟩⟩
noncomputable def z138:Str:=⟨⟨[80,121,116,104,111,110,70,105,110,97,108,105,122,97,116,105,111,110,69,114,114,111,114]⟩⟩
noncomputable def z139:Str:=⟨⟨[82,101,99,117,114,115,105,111,110,69,114,114,111,114]⟩⟩
noncomputable def z140:Str:=⟨⟨[85,110,98,111,117,110,100,76,111,99,97,108,69,114,114,111,114]⟩⟩
noncomputable def z141:Str:=⟨⟨[85,110,105,99,111,100,101,69,114,114,111,114]⟩⟩
noncomputable def z142:Str:=⟨⟨[66,114,111,107,101,110,80,105,112,101,69,114,114,111,114]⟩⟩
noncomputable def z143:Str:=⟨⟨[67,111,110,110,101,99,116,105,111,110,65,98,111,114,116,101,100,69,114,114,111,114]⟩⟩
noncomputable def z144:Str:=⟨⟨[67,111,110,110,101,99,116,105,111,110,82,101,102,117,115,101,100,69,114,114,111,114]⟩⟩
noncomputable def z145:Str:=⟨⟨[67,111,110,110,101,99,116,105,111,110,82,101,115,101,116,69,114,114,111,114]⟩⟩
noncomputable def z146:Str:=⟨⟨[84,97,98,69,114,114,111,114]⟩⟩
noncomputable def z147:Str:=⟨⟨[85,110,105,99,111,100,101,68,101,99,111,100,101,69,114,114,111,114]⟩⟩
noncomputable def z148:Str:=⟨⟨[85,110,105,99,111,100,101,69,110,99,111,100,101,69,114,114,111,114]⟩⟩
noncomputable def z149:Str:=⟨⟨[85,110,105,99,111,100,101,84,114,97,110,115,108,97,116,101,69,114,114,111,114]⟩⟩
noncomputable def z150:Str:=⟨⟨[69,120,99,101,112,116,105,111,110,71,114,111,117,112]⟩⟩
noncomputable def z151:Str:=⟨⟨[69,110,118,105,114,111,110,109,101,110,116,69,114,114,111,114]⟩⟩
noncomputable def z152:Str:=⟨⟨[73,79,69,114,114,111,114]⟩⟩
noncomputable def z153:Str:=⟨⟨[111,112,101,110]⟩⟩
noncomputable def z154:Str:=⟨⟨[113,117,105,116]⟩⟩
noncomputable def z155:Str:=⟨⟨[101,120,105,116]⟩⟩
noncomputable def z156:Str:=⟨⟨[99,111,112,121,114,105,103,104,116]⟩⟩
noncomputable def z157:Str:=⟨⟨[99,114,101,100,105,116,115]⟩⟩
noncomputable def z158:Str:=⟨⟨[108,105,99,101,110,115,101]⟩⟩
noncomputable def z159:Str:=⟨⟨[104,101,108,112]⟩⟩
noncomputable def z160:Str:=⟨⟨[95,95,109,97,105,110,95,95]⟩⟩
noncomputable def z161:Str:=⟨⟨[95,95,97,110,110,111,116,97,116,105,111,110,115,95,95]⟩⟩
noncomputable def z162:Str:=⟨⟨[95,95,98,117,105,108,116,105,110,115,95,95]⟩⟩
noncomputable def z163:Str:=⟨⟨[95,95,102,105,108,101,95,95]⟩⟩
noncomputable def z164:Str:=⟨⟨[47,99,108,97,105,109,47,99,117,116,46,112,121]⟩⟩
noncomputable def z165:Str:=⟨⟨[95,95,99,97,99,104,101,100,95,95]⟩⟩
noncomputable def z166:Str:=⟨⟨[60,109,111,100,117,108,101,62]⟩⟩
noncomputable def z167:Str:=⟨⟨[116,121,112,101,46,95,95,115,117,98,99,108,97,115,115,101,115,95,95,46,69,120,99,101,112,116,105,111,110,46,48]⟩⟩
noncomputable def z168:Str:=⟨⟨[116,121,112,101,46,95,95,115,117,98,99,108,97,115,115,101,115,95,95,46,69,120,99,101,112,116,105,111,110,46,110]⟩⟩
noncomputable def z169:Str:=⟨⟨[101,109,97,99,115,46,102,111,110,116,115,121,110,116,97,120]⟩⟩
noncomputable def z170:Str:=⟨⟨[95,119,97,108,108]⟩⟩
noncomputable def z171:Str:=⟨⟨[76,105,115,112,83,105,103,110,97,108]⟩⟩
noncomputable def z172:Str:=⟨⟨[67,79,68,69]⟩⟩
noncomputable def z173:Str:=⟨⟨[83,84,82,73,78,71]⟩⟩
noncomputable def z174:Str:=⟨⟨[67,79,77,77,69,78,84]⟩⟩
noncomputable def z175:Str:=⟨⟨[83,105,103,110,115]⟩⟩
noncomputable def z176:Str:=⟨⟨[115,116,97,110,100,115,95,97,116]⟩⟩
noncomputable def z177:Str:=⟨⟨[105,115,95,108,105,110,101,95,99,111,109,109,101,110,116]⟩⟩
noncomputable def z178:Str:=⟨⟨[107]⟩⟩
noncomputable def z179:Str:=⟨⟨[95,95,109,111,100,117,108,101,95,95]⟩⟩
noncomputable def z180:Str:=⟨⟨[101,109,97,99,115,46,101,114,114,111,114,115]⟩⟩
noncomputable def z181:Str:=⟨⟨[95,95,113,117,97,108,110,97,109,101,95,95]⟩⟩
noncomputable def z182:Str:=⟨⟨[95,95,102,105,114,115,116,108,105,110,101,110,111,95,95]⟩⟩
noncomputable def z183:Str:=⟨⟨[95,95,105,110,105,116,95,95]⟩⟩
noncomputable def z184:Str:=⟨⟨[95,95,115,116,97,116,105,99,95,97,116,116,114,105,98,117,116,101,115,95,95]⟩⟩
noncomputable def z185:Str:=⟨⟨[115,101,108,102]⟩⟩
noncomputable def z186:Str:=⟨⟨[115,121,109,98,111,108]⟩⟩
noncomputable def z187:Str:=⟨⟨[100,97,116,97]⟩⟩
noncomputable def z188:Str:=⟨⟨[76,105,115,112,83,105,103,110,97,108,46,95,95,105,110,105,116,95,95]⟩⟩
noncomputable def z189:Str:=⟨⟨[95,95,119,101,97,107,114,101,102,95,95]⟩⟩
noncomputable def z190:Str:=⟨⟨[113,117,111,116,101,115]⟩⟩
noncomputable def z191:Str:=⟨⟨[101,115,99,97,112,101]⟩⟩
noncomputable def z192:Str:=⟨⟨[108,105,110,101,95,115,116,97,114,116,115]⟩⟩
noncomputable def z193:Str:=⟨⟨[115,116,97,114,116]⟩⟩
noncomputable def z194:Str:=⟨⟨[101,110,100]⟩⟩
noncomputable def z195:Str:=⟨⟨[110,101,115,116,115]⟩⟩
noncomputable def z196:Str:=⟨⟨[83,105,103,110,115,46,95,95,105,110,105,116,95,95]⟩⟩
noncomputable def z197:Str:=⟨⟨[95,95,100,105,99,116,95,95]⟩⟩
noncomputable def z198:Str:=⟨⟨[99,111,100,101,115]⟩⟩
noncomputable def z199:Str:=⟨⟨[119,97,110,116,101,100]⟩⟩
noncomputable def z200:Str:=⟨⟨[97,116]⟩⟩
noncomputable def z201:Str:=⟨⟨[115,105,103,110,115]⟩⟩
noncomputable def z202:Str:=⟨⟨[83,99,97,110]⟩⟩
noncomputable def z203:Str:=⟨⟨[115,99,97,110,110,101,100]⟩⟩
noncomputable def z204:Str:=⟨⟨[108,101,97,118,101]⟩⟩
noncomputable def z205:Str:=⟨⟨[101,110,116,101,114]⟩⟩
noncomputable def z206:Str:=⟨⟨[105,110,95,99,111,100,101]⟩⟩
noncomputable def z207:Str:=⟨⟨[105,110,95,115,116,114,105,110,103]⟩⟩
noncomputable def z208:Str:=⟨⟨[105,110,95,99,111,109,109,101,110,116]⟩⟩
noncomputable def z209:Str:=⟨⟨[103,111]⟩⟩
noncomputable def z210:Str:=⟨⟨[115,116,97,116,101]⟩⟩
noncomputable def z211:Str:=⟨⟨[83,99,97,110,46,95,95,105,110,105,116,95,95]⟩⟩
noncomputable def z212:Str:=⟨⟨[83,99,97,110,46,108,101,97,118,101]⟩⟩
noncomputable def z213:Str:=⟨⟨[83,99,97,110,46,101,110,116,101,114]⟩⟩
noncomputable def z214:Str:=⟨⟨[83,99,97,110,46,105,110,95,99,111,100,101]⟩⟩
noncomputable def z215:Str:=⟨⟨[99,111,100,101]⟩⟩
noncomputable def z216:Str:=⟨⟨[83,99,97,110,46,105,110,95,115,116,114,105,110,103]⟩⟩
noncomputable def z217:Str:=⟨⟨[100,101,112,116,104]⟩⟩
noncomputable def z218:Str:=⟨⟨[83,99,97,110,46,105,110,95,99,111,109,109,101,110,116]⟩⟩
noncomputable def z219:Str:=⟨⟨[83,99,97,110,46,103,111]⟩⟩
noncomputable def z220:Str:=⟨⟨[98,101,103,117,110]⟩⟩
noncomputable def z221:Str:=⟨⟨[115,112,97,110,115]⟩⟩
noncomputable def z222:Str:=⟨⟨[115,99,97,110]⟩⟩
noncomputable def z223:Str:=⟨⟨[101,109,97,99,115,46,102,111,110,116,108,111,99,107]⟩⟩
noncomputable def z224:Str:=⟨⟨[76,105,110,101,83,116,97,116,101,115]⟩⟩
noncomputable def z225:Str:=⟨⟨[78,69,86,69,82]⟩⟩
noncomputable def z226:Str:=⟨⟨[65,76,87,65,89,83]⟩⟩
noncomputable def z227:Str:=⟨⟨[75,69,69,80]⟩⟩
noncomputable def z228:Str:=⟨⟨[70,73,82,83,84]⟩⟩
noncomputable def z229:Str:=⟨⟨[76,65,83,84]⟩⟩
noncomputable def z230:Str:=⟨⟨[77,97,114,107]⟩⟩
noncomputable def z231:Str:=⟨⟨[99,104,97,110,103,101,100]⟩⟩
noncomputable def z232:Str:=⟨⟨[98,101,103,105,110,95,111,102]⟩⟩
noncomputable def z233:Str:=⟨⟨[108,105,110,101,115]⟩⟩
noncomputable def z234:Str:=⟨⟨[76,105,110,101,83,116,97,116,101,115,46,95,95,105,110,105,116,95,95]⟩⟩
noncomputable def z235:Str:=⟨⟨[102,105,114,115,116]⟩⟩
noncomputable def z236:Str:=⟨⟨[111,108,100,95,109,97,110,121]⟩⟩
noncomputable def z237:Str:=⟨⟨[110,101,119,95,109,97,110,121]⟩⟩
noncomputable def z238:Str:=⟨⟨[111,108,100]⟩⟩
noncomputable def z239:Str:=⟨⟨[102,111,117,110,100]⟩⟩
noncomputable def z240:Str:=⟨⟨[98,101,104,105,110,100]⟩⟩
noncomputable def z241:Str:=⟨⟨[76,105,110,101,83,116,97,116,101,115,46,99,104,97,110,103,101,100]⟩⟩
noncomputable def z242:Str:=⟨⟨[108,105,110,101]⟩⟩
noncomputable def z243:Str:=⟨⟨[76,105,110,101,83,116,97,116,101,115,46,98,101,103,105,110,95,111,102]⟩⟩
noncomputable def z244:Str:=⟨⟨[115,116,97,116,101,115]⟩⟩
noncomputable def z245:Str:=⟨⟨[103,114,111,117,112]⟩⟩
noncomputable def z246:Str:=⟨⟨[102,97,99,101]⟩⟩
noncomputable def z247:Str:=⟨⟨[119,97,121]⟩⟩
noncomputable def z248:Str:=⟨⟨[105,115,95,108,97,120]⟩⟩
noncomputable def z249:Str:=⟨⟨[77,97,114,107,46,95,95,105,110,105,116,95,95]⟩⟩
noncomputable def z250:Str:=⟨⟨[82,117,108,101]⟩⟩
noncomputable def z251:Str:=⟨⟨[112,97,105,110,116,101,100]⟩⟩
noncomputable def z252:Str:=⟨⟨[109,97,114,107,95,103,114,111,117,112,115]⟩⟩
noncomputable def z253:Str:=⟨⟨[109,97,114,107,95,114,117,108,101]⟩⟩
noncomputable def z254:Str:=⟨⟨[108,105,110,101,95,102,97,99,101,115]⟩⟩
noncomputable def z255:Str:=⟨⟨[109,97,116,99,104,101,114]⟩⟩
noncomputable def z256:Str:=⟨⟨[109,97,114,107,115]⟩⟩
noncomputable def z257:Str:=⟨⟨[97,110,99,104,111,114,101,100]⟩⟩
noncomputable def z258:Str:=⟨⟨[82,117,108,101,46,95,95,105,110,105,116,95,95]⟩⟩
noncomputable def z259:Str:=⟨⟨[102,97,99,101,115]⟩⟩
noncomputable def z260:Str:=⟨⟨[103,114,111,117,112,115]⟩⟩
noncomputable def z261:Str:=⟨⟨[109,97,114,107]⟩⟩
noncomputable def z262:Str:=⟨⟨[115,112,97,110]⟩⟩
noncomputable def z263:Str:=⟨⟨[114,117,108,101]⟩⟩
noncomputable def z264:Str:=⟨⟨[105,110,110,101,114]⟩⟩
noncomputable def z265:Str:=⟨⟨[70,111,110,116,76,111,99,107]⟩⟩
noncomputable def z266:Str:=⟨⟨[87,79,82,68,95,67,79,68,69,83]⟩⟩
noncomputable def z267:Str:=⟨⟨[105,115,95,119,111,114,100,95,99,111,100,101]⟩⟩
noncomputable def z268:Str:=⟨⟨[108,111,111,107]⟩⟩
noncomputable def z269:Str:=⟨⟨[108,111,111,107,95,97,116]⟩⟩
noncomputable def z270:Str:=⟨⟨[100,105,114,116,121]⟩⟩
noncomputable def z271:Str:=⟨⟨[70,111,110,116,76,111,99,107,46,95,95,105,110,105,116,95,95]⟩⟩
noncomputable def z272:Str:=⟨⟨[111,119,110]⟩⟩
noncomputable def z273:Str:=⟨⟨[70,111,110,116,76,111,99,107,46,108,111,111,107]⟩⟩
noncomputable def z274:Str:=⟨⟨[70,111,110,116,76,111,99,107,46,108,111,111,107,95,97,116]⟩⟩
noncomputable def z275:Str:=⟨⟨[107,101,112,116]⟩⟩
noncomputable def z276:Str:=⟨⟨[70,111,110,116,76,111,99,107,46,99,104,97,110,103,101,100]⟩⟩
noncomputable def z277:Str:=⟨⟨[70,111,110,116,76,111,99,107,46,100,105,114,116,121]⟩⟩
noncomputable def z278:Str:=⟨⟨[99,111,109,109,101,110,116,95,102,97,99,101]⟩⟩
noncomputable def z279:Str:=⟨⟨[108,111,111,107,101,100]⟩⟩
noncomputable def z280:Str:=⟨⟨[114,117,108,101,115]⟩⟩
noncomputable def z281:Str:=⟨⟨[115,116,114,105,110,103,95,102,97,99,101]⟩⟩
noncomputable def z282:Str:=⟨⟨[101,109,97,99,115,46,103,97,112]⟩⟩
noncomputable def z283:Str:=⟨⟨[87,111,114,100,77,97,116,99,104,101,114]⟩⟩
noncomputable def z284:Str:=⟨⟨[115,101,97,114,99,104]⟩⟩
noncomputable def z285:Str:=⟨⟨[119,111,114,100,115]⟩⟩
noncomputable def z286:Str:=⟨⟨[87,111,114,100,77,97,116,99,104,101,114,46,95,95,105,110,105,116,95,95]⟩⟩
noncomputable def z287:Str:=⟨⟨[108,97,115,116]⟩⟩
noncomputable def z288:Str:=⟨⟨[87,111,114,100,77,97,116,99,104,101,114,46,115,101,97,114,99,104]⟩⟩
noncomputable def z289:Str:=⟨⟨[101,109,97,99,115,46,109,97,114,107,101,114,115]⟩⟩
noncomputable def z290:Str:=⟨⟨[71,97,112,84,101,120,116]⟩⟩
noncomputable def z291:Str:=⟨⟨[115,105,122,101]⟩⟩
noncomputable def z292:Str:=⟨⟨[109,111,118,101,95,103,97,112]⟩⟩
noncomputable def z293:Str:=⟨⟨[119,105,100,101,110,95,103,97,112]⟩⟩
noncomputable def z294:Str:=⟨⟨[105,110,115,101,114,116]⟩⟩
noncomputable def z295:Str:=⟨⟨[100,101,108,101,116,101]⟩⟩
noncomputable def z296:Str:=⟨⟨[112,117,116]⟩⟩
noncomputable def z297:Str:=⟨⟨[110,97,114,114,111,119,95,103,97,112]⟩⟩
noncomputable def z298:Str:=⟨⟨[105,115,95,119,104,111,108,101]⟩⟩
noncomputable def z299:Str:=⟨⟨[114,111,111,109]⟩⟩
noncomputable def z300:Str:=⟨⟨[71,97,112,84,101,120,116,46,95,95,105,110,105,116,95,95]⟩⟩
noncomputable def z301:Str:=⟨⟨[71,97,112,84,101,120,116,46,115,105,122,101]⟩⟩
noncomputable def z302:Str:=⟨⟨[71,97,112,84,101,120,116,46,99,111,100,101]⟩⟩
noncomputable def z303:Str:=⟨⟨[115,104,105,102,116]⟩⟩
noncomputable def z304:Str:=⟨⟨[71,97,112,84,101,120,116,46,99,111,100,101,115]⟩⟩
noncomputable def z305:Str:=⟨⟨[109,111,118,101,100]⟩⟩
noncomputable def z306:Str:=⟨⟨[71,97,112,84,101,120,116,46,109,111,118,101,95,103,97,112]⟩⟩
noncomputable def z307:Str:=⟨⟨[108,97,99,107]⟩⟩
noncomputable def z308:Str:=⟨⟨[71,97,112,84,101,120,116,46,119,105,100,101,110,95,103,97,112]⟩⟩
noncomputable def z309:Str:=⟨⟨[71,97,112,84,101,120,116,46,105,110,115,101,114,116]⟩⟩
noncomputable def z310:Str:=⟨⟨[103,111,110,101]⟩⟩
noncomputable def z311:Str:=⟨⟨[71,97,112,84,101,120,116,46,100,101,108,101,116,101]⟩⟩
noncomputable def z312:Str:=⟨⟨[71,97,112,84,101,120,116,46,112,117,116]⟩⟩
noncomputable def z313:Str:=⟨⟨[71,97,112,84,101,120,116,46,110,97,114,114,111,119,95,103,97,112]⟩⟩
noncomputable def z314:Str:=⟨⟨[71,97,112,84,101,120,116,46,105,115,95,119,104,111,108,101]⟩⟩
noncomputable def z315:Str:=⟨⟨[99,101,108,108,115]⟩⟩
noncomputable def z316:Str:=⟨⟨[103,97,112,95,101,110,100]⟩⟩
noncomputable def z317:Str:=⟨⟨[103,97,112,95,115,116,97,114,116]⟩⟩
noncomputable def z318:Str:=⟨⟨[101,109,97,99,115,46,111,98,106,101,99,116,115]⟩⟩
noncomputable def z319:Str:=⟨⟨[77,97,114,107,101,114,115]⟩⟩
noncomputable def z320:Str:=⟨⟨[110,117,109,98,101,114,115]⟩⟩
noncomputable def z321:Str:=⟨⟨[100,114,111,112]⟩⟩
noncomputable def z322:Str:=⟨⟨[119,105,116,104,105,110]⟩⟩
noncomputable def z323:Str:=⟨⟨[105,110,115,101,114,116,101,100]⟩⟩
noncomputable def z324:Str:=⟨⟨[100,101,108,101,116,101,100]⟩⟩
noncomputable def z325:Str:=⟨⟨[114,101,112,108,97,99,101,100]⟩⟩
noncomputable def z326:Str:=⟨⟨[77,97,114,107,101,114,115,46,95,95,105,110,105,116,95,95]⟩⟩
noncomputable def z327:Str:=⟨⟨[77,97,114,107,101,114,115,46,110,117,109,98,101,114,115]⟩⟩
noncomputable def z328:Str:=⟨⟨[109,97,114,107,101,114]⟩⟩
noncomputable def z329:Str:=⟨⟨[112,111,115,105,116,105,111,110]⟩⟩
noncomputable def z330:Str:=⟨⟨[77,97,114,107,101,114,115,46,112,117,116]⟩⟩
noncomputable def z331:Str:=⟨⟨[77,97,114,107,101,114,115,46,100,114,111,112]⟩⟩
noncomputable def z332:Str:=⟨⟨[110,117,109,98,101,114]⟩⟩
noncomputable def z333:Str:=⟨⟨[77,97,114,107,101,114,115,46,119,105,116,104,105,110]⟩⟩
noncomputable def z334:Str:=⟨⟨[105,115,95,98,101,102,111,114,101]⟩⟩
noncomputable def z335:Str:=⟨⟨[77,97,114,107,101,114,115,46,105,110,115,101,114,116,101,100]⟩⟩
noncomputable def z336:Str:=⟨⟨[77,97,114,107,101,114,115,46,100,101,108,101,116,101,100]⟩⟩
noncomputable def z337:Str:=⟨⟨[109,97,110,121]⟩⟩
noncomputable def z338:Str:=⟨⟨[77,97,114,107,101,114,115,46,114,101,112,108,97,99,101,100]⟩⟩
noncomputable def z339:Str:=⟨⟨[114,111,119,115]⟩⟩
noncomputable def z340:Str:=⟨⟨[101,109,97,99,115,46,98,117,102,102,101,114]⟩⟩
noncomputable def z341:Str:=⟨⟨[79,112,97,113,117,101]⟩⟩
noncomputable def z342:Str:=⟨⟨[115,104,111,119,110]⟩⟩
noncomputable def z343:Str:=⟨⟨[107,105,110,100]⟩⟩
noncomputable def z344:Str:=⟨⟨[115,97,109,101,95,97,115]⟩⟩
noncomputable def z345:Str:=⟨⟨[79,112,97,113,117,101,46,115,104,111,119,110]⟩⟩
noncomputable def z346:Str:=⟨⟨[79,112,97,113,117,101,46,107,105,110,100]⟩⟩
noncomputable def z347:Str:=⟨⟨[111,116,104,101,114]⟩⟩
noncomputable def z348:Str:=⟨⟨[79,112,97,113,117,101,46,115,97,109,101,95,97,115]⟩⟩
noncomputable def z349:Str:=⟨⟨[66,117,102,102,101,114]⟩⟩
noncomputable def z350:Str:=⟨⟨[98,101,103,105,110]⟩⟩
noncomputable def z351:Str:=⟨⟨[99,111,100,101,95,97,116]⟩⟩
noncomputable def z352:Str:=⟨⟨[103,111,116,111]⟩⟩
noncomputable def z353:Str:=⟨⟨[116,105,99,107]⟩⟩
noncomputable def z354:Str:=⟨⟨[105,115,95,109,111,100,105,102,105,101,100]⟩⟩
noncomputable def z355:Str:=⟨⟨[115,101,116,95,109,111,100,105,102,105,101,100]⟩⟩
noncomputable def z356:Str:=⟨⟨[116,111,117,99,104]⟩⟩
noncomputable def z357:Str:=⟨⟨[110,97,109,101]⟩⟩
noncomputable def z358:Str:=⟨⟨[66,117,102,102,101,114,46,95,95,105,110,105,116,95,95]⟩⟩
noncomputable def z359:Str:=⟨⟨[66,117,102,102,101,114,46,115,104,111,119,110]⟩⟩
noncomputable def z360:Str:=⟨⟨[66,117,102,102,101,114,46,107,105,110,100]⟩⟩
noncomputable def z361:Str:=⟨⟨[66,117,102,102,101,114,46,98,101,103,105,110]⟩⟩
noncomputable def z362:Str:=⟨⟨[66,117,102,102,101,114,46,101,110,100]⟩⟩
noncomputable def z363:Str:=⟨⟨[66,117,102,102,101,114,46,115,105,122,101]⟩⟩
noncomputable def z364:Str:=⟨⟨[112,108,97,99,101]⟩⟩
noncomputable def z365:Str:=⟨⟨[66,117,102,102,101,114,46,99,111,100,101,95,97,116]⟩⟩
noncomputable def z366:Str:=⟨⟨[66,117,102,102,101,114,46,99,111,100,101,115]⟩⟩
noncomputable def z367:Str:=⟨⟨[66,117,102,102,101,114,46,103,111,116,111]⟩⟩
noncomputable def z368:Str:=⟨⟨[66,117,102,102,101,114,46,116,105,99,107]⟩⟩
noncomputable def z369:Str:=⟨⟨[66,117,102,102,101,114,46,105,115,95,109,111,100,105,102,105,101,100]⟩⟩
noncomputable def z370:Str:=⟨⟨[105,115,95,115,111]⟩⟩
noncomputable def z371:Str:=⟨⟨[66,117,102,102,101,114,46,115,101,116,95,109,111,100,105,102,105,101,100]⟩⟩
noncomputable def z372:Str:=⟨⟨[97,114,101,95,99,111,100,101,115]⟩⟩
noncomputable def z373:Str:=⟨⟨[66,117,102,102,101,114,46,116,111,117,99,104]⟩⟩
noncomputable def z374:Str:=⟨⟨[98,101,103,118]⟩⟩
noncomputable def z375:Str:=⟨⟨[99,111,100,101,115,95,116,105,99,107,115]⟩⟩
noncomputable def z376:Str:=⟨⟨[102,105,108,101]⟩⟩
noncomputable def z377:Str:=⟨⟨[105,115,95,108,105,118,101]⟩⟩
noncomputable def z378:Str:=⟨⟨[105,115,95,114,101,97,100,95,111,110,108,121]⟩⟩
noncomputable def z379:Str:=⟨⟨[108,105,115,116,101,110,101,114,115]⟩⟩
noncomputable def z380:Str:=⟨⟨[109,97,114,107,101,114,115]⟩⟩
noncomputable def z381:Str:=⟨⟨[111,118,101,114,108,97,121,115]⟩⟩
noncomputable def z382:Str:=⟨⟨[112,111,105,110,116]⟩⟩
noncomputable def z383:Str:=⟨⟨[112,114,111,112,115]⟩⟩
noncomputable def z384:Str:=⟨⟨[115,97,118,101,100,95,116,105,99,107,115]⟩⟩
noncomputable def z385:Str:=⟨⟨[115,121,110,116,97,120]⟩⟩
noncomputable def z386:Str:=⟨⟨[116,101,120,116]⟩⟩
noncomputable def z387:Str:=⟨⟨[116,105,99,107,115]⟩⟩
noncomputable def z388:Str:=⟨⟨[117,110,100,111]⟩⟩
noncomputable def z389:Str:=⟨⟨[122,118]⟩⟩
noncomputable def z390:Str:=⟨⟨[101,109,97,99,115,46,101,100,105,116,105,110,103]⟩⟩
noncomputable def z391:Str:=⟨⟨[67,104,97,110,103,101,76,111,103]⟩⟩
noncomputable def z392:Str:=⟨⟨[76,79,78,71,69,83,84]⟩⟩
noncomputable def z393:Str:=⟨⟨[110,101,101,100,95,119,114,105,116,97,98,108,101]⟩⟩
noncomputable def z394:Str:=⟨⟨[110,101,101,100,95,114,111,111,109]⟩⟩
noncomputable def z395:Str:=⟨⟨[114,101,97,99,104,101,100]⟩⟩
noncomputable def z396:Str:=⟨⟨[116,101,108,108,95,97,104,101,97,100]⟩⟩
noncomputable def z397:Str:=⟨⟨[116,101,108,108,95,98,101,104,105,110,100]⟩⟩
noncomputable def z398:Str:=⟨⟨[116,101,120,116,95,111,117,116]⟩⟩
noncomputable def z399:Str:=⟨⟨[116,101,120,116,95,105,110]⟩⟩
noncomputable def z400:Str:=⟨⟨[104,117,110,103,95,111,117,116]⟩⟩
noncomputable def z401:Str:=⟨⟨[104,117,110,103,95,105,110]⟩⟩
noncomputable def z402:Str:=⟨⟨[101,109,97,99,115,46,99,104,97,110,103,101,108,111,103]⟩⟩
noncomputable def z403:Str:=⟨⟨[98,101,102,111,114,101,95,99,104,97,110,103,101]⟩⟩
noncomputable def z404:Str:=⟨⟨[97,102,116,101,114,95,99,104,97,110,103,101]⟩⟩
noncomputable def z405:Str:=⟨⟨[116,97,107,101,110]⟩⟩
noncomputable def z406:Str:=⟨⟨[67,104,97,110,103,101,76,111,103,46,95,95,105,110,105,116,95,95]⟩⟩
noncomputable def z407:Str:=⟨⟨[98,117,102,102,101,114]⟩⟩
noncomputable def z408:Str:=⟨⟨[67,104,97,110,103,101,76,111,103,46,98,101,102,111,114,101,95,99,104,97,110,103,101]⟩⟩
noncomputable def z409:Str:=⟨⟨[111,108,100,95,108,101,110,103,116,104]⟩⟩
noncomputable def z410:Str:=⟨⟨[103,114,111,119,116,104]⟩⟩
noncomputable def z411:Str:=⟨⟨[67,104,97,110,103,101,76,111,103,46,97,102,116,101,114,95,99,104,97,110,103,101]⟩⟩
noncomputable def z412:Str:=⟨⟨[67,104,97,110,103,101,76,111,103,46,116,97,107,101,110]⟩⟩
noncomputable def z413:Str:=⟨⟨[108,111,119]⟩⟩
noncomputable def z414:Str:=⟨⟨[104,105,103,104]⟩⟩
noncomputable def z415:Str:=⟨⟨[108,105,115,116,101,110,101,114]⟩⟩
noncomputable def z416:Str:=⟨⟨[98,101,102,111,114,101,95,109,97,114,107,101,114,115]⟩⟩
noncomputable def z417:Str:=⟨⟨[108,97,119,95,112,113,48,50,57,52,95,48,49]⟩⟩
noncomputable def z418:Str:=⟨⟨[112,117,116,95,105,110]⟩⟩
noncomputable def z419:Str:=⟨⟨[105,110,115,101,114,116,95,97,116]⟩⟩
noncomputable def z420:Str:=⟨⟨[114,101,112,108,97,99,101]⟩⟩
noncomputable def z421:Str:=⟨⟨[95,108,97,119,95,100,114,97,119]⟩⟩
noncomputable def z422:Str:=⟨⟨[95,108,97,119,95,112,105,101,99,101]⟩⟩
noncomputable def z423:Str:=⟨⟨[95,108,97,119,95,99,111,100,101,115]⟩⟩
noncomputable def z424:Str:=⟨⟨[95,108,97,119,95,108,105,110,101,115]⟩⟩
noncomputable def z425:Str:=⟨⟨[95,108,97,119,95,102,114,101,115,104]⟩⟩
noncomputable def z426:Str:=⟨⟨[95,108,97,119,95,101,100,105,116]⟩⟩
noncomputable def z427:Str:=⟨⟨[95,108,97,119,95,99,97,117,103,104,116,95,117,112]⟩⟩
noncomputable def z428:Str:=⟨⟨[108,97,119]⟩⟩
noncomputable def z429:Str:=⟨⟨[105,115,95,112,111,105,110,116,95,98,101,104,105,110,100]⟩⟩
noncomputable def z430:Str:=⟨⟨[100,101,99,107]⟩⟩
noncomputable def z431:Str:=⟨⟨[109,111,115,116]⟩⟩
noncomputable def z432:Str:=⟨⟨[108,97,112]⟩⟩
noncomputable def z433:Str:=⟨⟨[108,111,99,107,95,104,101,114,101]⟩⟩
noncomputable def z434:Str:=⟨⟨[108,111,103]⟩⟩
noncomputable def z435:Str:=⟨⟨[101,108,100,101,114]⟩⟩
noncomputable def z436:Str:=⟨⟨[115,116,114,101,116,99,104]⟩⟩
noncomputable def o0 (P:Params):Obj:=⟨t "dict",none,(.dict #[k P z0 1 (s z1 160),k P z2 2 (u "builtins.__doc__:str#opaque"),k P z3 3 (u "builtins.__package__:str#opaque"),k P z4 4 (u "builtins.__loader__:shared#opaque"),k P z5 5 (u "builtins.__spec__#opaque"),k P z6 6 (u "__build_class__"),k P z7 7 (u "__import__"),k P z8 8 (u "abs"),k P z9 9 (u "all"),k P z10 10 (u "any"),k P z11 11 (u "ascii"),k P z12 12 (u "bin"),k P z13 13 (u "breakpoint"),k P z14 14 (u "callable"),k P z15 15 (u "chr"),k P z16 16 (u "compile"),k P z17 17 (u "delattr"),k P z18 18 (u "dir"),k P z19 19 (u "divmod"),k P z20 20 (u "eval"),k P z21 21 (u "exec"),k P z22 22 (u "format"),k P z23 23 (u "getattr"),k P z24 24 (u "globals"),k P z25 25 (u "hasattr"),k P z26 26 (u "hash"),k P z27 27 (u "hex"),k P z28 28 (u "id"),k P z29 29 (u "input"),k P z30 30 (u "isinstance"),k P z31 31 (u "issubclass"),k P z32 32 (u "iter"),k P z33 33 (u "aiter"),k P z34 34 (u "len"),k P z35 35 (u "locals"),k P z36 36 (u "max"),k P z37 37 (u "min"),k P z38 38 (u "next"),k P z39 39 (u "anext"),k P z40 40 (u "oct"),k P z41 41 (u "ord"),k P z42 42 (u "pow"),k P z43 43 (u "print"),k P z44 44 (u "repr"),k P z45 45 (u "round"),k P z46 46 (u "setattr"),k P z47 47 (u "sorted"),k P z48 48 (u "sum"),k P z49 49 (u "vars"),k P z50 50 n,k P z51 51 .ellipsis,k P z52 52 .notImplemented,k P z53 53 (b false),k P z54 54 (b true),k P z55 55 (t "bool"),k P z56 56 (t "memoryview"),k P z57 57 (t "bytearray"),k P z58 58 (t "bytes"),k P z59 59 (t "classmethod"),k P z60 60 (t "complex"),k P z61 61 (t "dict"),k P z62 62 (t "enumerate"),k P z63 63 (t "filter"),k P z64 64 (t "float"),k P z65 65 (t "frozenset"),k P z66 66 (t "property"),k P z67 67 (t "int"),k P z68 68 (t "list"),k P z69 69 (t "map"),k P z70 70 (t "object"),k P z71 71 (t "range"),k P z72 72 (t "reversed"),k P z73 73 (t "set"),k P z74 74 (t "slice"),k P z75 75 (t "staticmethod"),k P z76 76 (t "str"),k P z77 77 (t "super"),k P z78 78 (t "tuple"),k P z79 79 (t "type"),k P z80 80 (t "zip"),k P z81 81 (b true),k P z82 82 (t "BaseException"),k P z83 83 (t "BaseExceptionGroup"),k P z84 84 (t "Exception"),k P z85 85 (t "GeneratorExit"),k P z86 86 (t "KeyboardInterrupt"),k P z87 87 (t "SystemExit"),k P z88 88 (t "ArithmeticError"),k P z89 89 (t "AssertionError"),k P z90 90 (t "AttributeError"),k P z91 91 (t "BufferError"),k P z92 92 (t "EOFError"),k P z93 93 (t "ImportError"),k P z94 94 (t "LookupError"),k P z95 95 (t "MemoryError"),k P z96 96 (t "NameError"),k P z97 97 (t "OSError"),k P z98 98 (t "ReferenceError"),k P z99 99 (t "RuntimeError"),k P z100 100 (t "StopAsyncIteration"),k P z101 101 (t "StopIteration"),k P z102 102 (t "SyntaxError"),k P z103 103 (t "SystemError"),k P z104 104 (t "TypeError"),k P z105 105 (t "ValueError"),k P z106 106 (t "Warning"),k P z107 107 (t "FloatingPointError"),k P z108 108 (t "OverflowError"),k P z109 109 (t "ZeroDivisionError"),k P z110 110 (t "BytesWarning"),k P z111 111 (t "DeprecationWarning"),k P z112 112 (t "EncodingWarning"),k P z113 113 (t "FutureWarning"),k P z114 114 (t "ImportWarning"),k P z115 115 (t "PendingDeprecationWarning"),k P z116 116 (t "ResourceWarning"),k P z117 117 (t "RuntimeWarning"),k P z118 118 (t "SyntaxWarning"),k P z119 119 (t "UnicodeWarning"),k P z120 120 (t "UserWarning"),k P z121 121 (t "BlockingIOError"),k P z122 122 (t "ChildProcessError"),k P z123 123 (t "ConnectionError"),k P z124 124 (t "FileExistsError"),k P z125 125 (t "FileNotFoundError"),k P z126 126 (t "InterruptedError"),k P z127 127 (t "IsADirectoryError"),k P z128 128 (t "NotADirectoryError"),k P z129 129 (t "PermissionError"),k P z130 130 (t "ProcessLookupError"),k P z131 131 (t "TimeoutError"),k P z132 132 (t "IndentationError"),k P z133 133 (t "_IncompleteInputError"),k P z134 134 (t "IndexError"),k P z135 135 (t "KeyError"),k P z136 136 (t "ModuleNotFoundError"),k P z137 137 (t "NotImplementedError"),k P z138 138 (t "PythonFinalizationError"),k P z139 139 (t "RecursionError"),k P z140 140 (t "UnboundLocalError"),k P z141 141 (t "UnicodeError"),k P z142 142 (t "BrokenPipeError"),k P z143 143 (t "ConnectionAbortedError"),k P z144 144 (t "ConnectionRefusedError"),k P z145 145 (t "ConnectionResetError"),k P z146 146 (t "TabError"),k P z147 147 (t "UnicodeDecodeError"),k P z148 148 (t "UnicodeEncodeError"),k P z149 149 (t "UnicodeTranslateError"),k P z150 150 (t "ExceptionGroup"),k P z151 151 (t "OSError"),k P z152 152 (t "OSError"),k P z153 153 (u "open"),k P z154 154 (u "builtins.quit#opaque"),k P z155 155 (u "builtins.exit#opaque"),k P z156 156 (u "builtins.copyright#opaque"),k P z157 157 (u "builtins.credits#opaque"),k P z158 158 (u "builtins.license#opaque"),k P z159 159 (u "builtins.help#opaque")] 159),#[]⟩
noncomputable def o1 (P:Params):Obj:=⟨t "dict",none,(.dict #[k P z1 162 (r 4),k P z160 163 (r 5)] 2),#[]⟩
noncomputable def o2 (P:Params):Obj:=⟨n,none,(.dict #[] 0),#[]⟩
noncomputable def o3 (P:Params):Obj:=⟨t "dict",none,(.dict #[k P z0 165 (s z160 164),k P z2 166 n,k P z3 167 n,k P z4 168 (u "__main__.__loader__#opaque"),k P z5 169 n,k P z161 170 (r 6),k P z162 171 (r 4),k P z163 173 (s z164 172),k P z165 174 n] 9),#[]⟩
noncomputable def o4 (P:Params):Obj:=⟨t "module",some 0,.plain,#[]⟩
noncomputable def o5 (P:Params):Obj:=⟨t "module",some 3,.plain,#[]⟩
noncomputable def o6 (P:Params):Obj:=⟨t "dict",none,(.dict #[] 0),#[]⟩
noncomputable def o7 (P:Params):Obj:=⟨t "tuple",none,(.seq #[] 0),#[]⟩
noncomputable def o8 (P:Params):Obj:=⟨n,none,(.fields #[]),#[]⟩
noncomputable def o9 (P:Params):Obj:=⟨t "code",none,(.fields #[s z166 176,s z166 177,s z164 178,i 1,i 0,i 0,i 0,i 0,r 7,b false,i 175,r 8,n,n,n,n,i 179,i 1,s z164 180]),#[]⟩
noncomputable def o10 (P:Params):Obj:=⟨t "frame",none,.plain,#[some (r 9),some (r 3),some (r 3),none,some (s z160 164),none,some (r 0)]⟩
noncomputable def o11 (P:Params):Obj:=⟨t "code",none,(.fields #[s z166 182,s z166 183,s z164 184,i 1,i 0,i 0,i 0,i 0,r 11,b false,i 181,r 12,n,n,n,n,i 185,i 1,s z164 186]),#[]⟩
noncomputable def o12 (P:Params):Obj:=⟨t "frame",none,.plain,#[some (r 13),some (r 3),some (r 3),none,some (s z160 164),none,some (r 0)]⟩
noncomputable def o13 (P:Params):Obj:=⟨n,none,(.dict #[k P z167 223 (i 38),k P z168 224 (i 1)] 2),#[]⟩
noncomputable def o14 (P:Params):Obj:=⟨t "dict",none,(.dict #[k P z0 165 (s z169 227),k P z2 166 n,k P z3 167 n,k P z4 168 (u "__main__.__loader__#opaque"),k P z5 169 n,k P z161 170 (r 6),k P z162 171 (r 4),k P z163 173 (s z164 172),k P z165 174 n,k P z170 193 (r 21),k P z171 226 (r 38),k P z172 230 (.int (0) 229),k P z173 232 (.int (1) 231),k P z174 234 (.int (2) 233),k P z175 273 (r 58),k P z176 282 (r 69),k P z177 292 (r 76)] 17),#[]⟩
noncomputable def o15 (P:Params):Obj:=⟨n,none,(.fields #[i 1,i 0,r 20,i 5,i 0,r 27,i 14,i 0,r 47,i 23,i 0,r 68,i 25,i 0,r 75]),#[]⟩
noncomputable def o16 (P:Params):Obj:=⟨t "tuple",none,(.seq #[s z178 190] 0),#[]⟩
noncomputable def o17 (P:Params):Obj:=⟨n,none,(.func (f0 (T 0) z170)),#[]⟩
noncomputable def o18 (P:Params):Obj:=⟨t "code",none,(.fields #[s z170 187,s z170 188,s z164 189,i 1,i 1,i 0,i 0,i 3,r 15,b true,i 181,r 16,n,r 17,r 18,r 19,i 191,i 1,s z164 192]),#[]⟩
noncomputable def o19 (P:Params):Obj:=⟨t "function",none,(.func (fD (T 0) z170 n (s z160 164) (r 20))),#[]⟩
noncomputable def o20 (P:Params):Obj:=⟨t "tuple",none,(.seq #[t "Exception"] 0),#[]⟩
noncomputable def o21 (P:Params):Obj:=⟨t "builtin_function_or_method",none,(.fields #[u "type.__prepare__",t "type"]),#[]⟩
noncomputable def o22 (P:Params):Obj:=⟨t "dict",none,(.dict #[k P z179 203 (s z180 194),k P z181 205 (s z171 204),k P z182 207 (.int (5) 206),k P z183 216 (r 35),k P z184 219 (r 36)] 5),#[]⟩
noncomputable def o23 (P:Params):Obj:=⟨n,none,(.fields #[i 7,i 4,r 34]),#[]⟩
noncomputable def o24 (P:Params):Obj:=⟨t "code",none,(.fields #[s z171 198,s z171 199,s z164 200,i 5,i 0,i 0,i 0,i 0,r 25,b false,i 181,r 26,n,n,n,n,i 201,i 5,s z164 202]),#[]⟩
noncomputable def o25 (P:Params):Obj:=⟨t "frame",none,.plain,#[some (r 27),some (r 3),some (r 24),none,some (s z180 194),none,some (r 0)]⟩
noncomputable def o26 (P:Params):Obj:=⟨t "tuple",none,(.seq #[s z185 211,s z186 212,s z187 213] 0),#[]⟩
noncomputable def o27 (P:Params):Obj:=⟨n,none,(.func (f0 (C 2 0) z188)),#[]⟩
noncomputable def o28 (P:Params):Obj:=⟨t "code",none,(.fields #[s z183 208,s z188 209,s z164 210,i 7,i 3,i 0,i 0,i 3,r 29,b true,i 181,r 30,n,r 31,r 32,r 33,i 214,i 7,s z164 215]),#[]⟩
noncomputable def o29 (P:Params):Obj:=⟨t "function",none,(.func (fD (C 2 0) z188 n (s z180 194) (r 34))),#[]⟩
noncomputable def o30 (P:Params):Obj:=⟨t "tuple",none,(.seq #[s z187 217,s z186 218] 0),#[]⟩
noncomputable def o31 (P:Params):Obj:=⟨t "dict",none,(.dict #[k P z179 203 (s z180 194),k P z182 207 (.int (5) 206),k P z183 216 (r 35),k P z184 219 (r 36),k P z189 221 (r 39),k P z2 222 n] 3),#[]⟩
noncomputable def o32 (P:Params):Obj:=⟨t "type",none,(.cls ⟨z171,[t "Exception"],[r 38,t "Exception",t "BaseException",t "object"],37,z171,true,[],[],false,none,false⟩),#[some (r 22),none,some (s z171 196),some (s z171 204),some (u "Exception.__new__"),some (b true)]⟩
noncomputable def o33 (P:Params):Obj:=⟨t "getset_descriptor",none,(.fields #[s z189 220,r 38,u "ExceptionGroup.__weakref__",n]),#[]⟩
noncomputable def o34 (P:Params):Obj:=⟨t "super",none,(.fields #[r 38,r 38,r 38]),#[]⟩
noncomputable def o35 (P:Params):Obj:=⟨t "builtin_function_or_method",none,(.fields #[u "object.__init_subclass__",r 38]),#[]⟩
noncomputable def o36 (P:Params):Obj:=⟨t "dict",none,(.dict #[k P z179 242 (s z169 227),k P z181 244 (s z175 243),k P z182 246 (.int (14) 245),k P z183 259 (r 55),k P z184 266 (r 56)] 5),#[]⟩
noncomputable def o37 (P:Params):Obj:=⟨n,none,(.fields #[i 16,i 4,r 54]),#[]⟩
noncomputable def o38 (P:Params):Obj:=⟨t "code",none,(.fields #[s z175 237,s z175 238,s z164 239,i 14,i 0,i 0,i 0,i 0,r 45,b false,i 181,r 46,n,n,n,n,i 240,i 14,s z164 241]),#[]⟩
noncomputable def o39 (P:Params):Obj:=⟨t "frame",none,.plain,#[some (r 47),some (r 3),some (r 44),none,some (s z169 227),none,some (r 0)]⟩
noncomputable def o40 (P:Params):Obj:=⟨t "tuple",none,(.seq #[s z185 250,s z190 251,s z191 252,s z192 253,s z193 254,s z194 255,s z195 256] 0),#[]⟩
noncomputable def o41 (P:Params):Obj:=⟨n,none,(.func (f0 (C 7 0) z196)),#[]⟩
noncomputable def o42 (P:Params):Obj:=⟨t "code",none,(.fields #[s z183 247,s z196 248,s z164 249,i 16,i 7,i 0,i 0,i 3,r 49,b true,i 181,r 50,n,r 51,r 52,r 53,i 257,i 16,s z164 258]),#[]⟩
noncomputable def o43 (P:Params):Obj:=⟨t "function",none,(.func (fD (C 7 0) z196 n (s z169 227) (r 54))),#[]⟩
noncomputable def o44 (P:Params):Obj:=⟨t "tuple",none,(.seq #[s z194 260,s z191 261,s z192 262,s z195 263,s z190 264,s z193 265] 0),#[]⟩
noncomputable def o45 (P:Params):Obj:=⟨t "dict",none,(.dict #[k P z179 242 (s z169 227),k P z182 246 (.int (14) 245),k P z183 259 (r 55),k P z184 266 (r 56),k P z197 268 (r 59),k P z189 270 (r 60),k P z2 271 n] 4),#[]⟩
noncomputable def o46 (P:Params):Obj:=⟨t "type",none,(.cls ⟨z175,[t "object"],[r 58,t "object"],57,z175,true,[],[],false,none,false⟩),#[none,none,some (s z175 235),some (s z175 243),some (u "object.__new__"),some (b true)]⟩
noncomputable def o47 (P:Params):Obj:=⟨t "getset_descriptor",none,(.fields #[s z197 267,r 58,u "function.__dict__",u "function.__dict__#set"]),#[]⟩
noncomputable def o48 (P:Params):Obj:=⟨t "getset_descriptor",none,(.fields #[s z189 269,r 58,u "ExceptionGroup.__weakref__",n]),#[]⟩
noncomputable def o49 (P:Params):Obj:=⟨t "super",none,(.fields #[r 58,r 58,r 58]),#[]⟩
noncomputable def o50 (P:Params):Obj:=⟨t "builtin_function_or_method",none,(.fields #[u "object.__init_subclass__",r 58]),#[]⟩
noncomputable def o51 (P:Params):Obj:=⟨t "tuple",none,(.seq #[s z198 277,s z199 278,s z200 279] 0),#[]⟩
noncomputable def o52 (P:Params):Obj:=⟨n,none,(.func (f0 (T 8) z176)),#[]⟩
noncomputable def o53 (P:Params):Obj:=⟨t "code",none,(.fields #[s z176 274,s z176 275,s z164 276,i 23,i 3,i 0,i 0,i 3,r 63,b true,i 181,r 64,n,r 65,r 66,r 67,i 280,i 23,s z164 281]),#[]⟩
noncomputable def o54 (P:Params):Obj:=⟨t "function",none,(.func (fD (T 8) z176 n (s z169 227) (r 68))),#[]⟩
noncomputable def o55 (P:Params):Obj:=⟨t "tuple",none,(.seq #[s z201 286,s z198 287,s z200 288,s z199 289] 0),#[]⟩
noncomputable def o56 (P:Params):Obj:=⟨n,none,(.func (f0 (T 9) z177)),#[]⟩
noncomputable def o57 (P:Params):Obj:=⟨t "code",none,(.fields #[s z177 283,s z177 284,s z164 285,i 25,i 3,i 0,i 0,i 3,r 70,b true,i 181,r 71,n,r 72,r 73,r 74,i 290,i 25,s z164 291]),#[]⟩
noncomputable def o58 (P:Params):Obj:=⟨t "function",none,(.func (fD (T 9) z177 n (s z169 227) (r 75))),#[]⟩
noncomputable def o59 (P:Params):Obj:=⟨t "dict",none,(.dict #[k P z0 165 (s z169 227),k P z2 166 n,k P z3 167 n,k P z4 168 (u "__main__.__loader__#opaque"),k P z5 169 n,k P z161 170 (r 6),k P z162 171 (r 4),k P z163 173 (s z164 172),k P z165 174 n,k P z170 193 (r 21),k P z171 226 (r 38),k P z172 230 (.int (0) 229),k P z173 232 (.int (1) 231),k P z174 234 (.int (2) 233),k P z175 273 (r 58),k P z176 282 (r 69),k P z177 292 (r 76),k P z202 376 (r 135),k P z203 386 (r 146)] 19),#[]⟩
noncomputable def o60 (P:Params):Obj:=⟨n,none,(.fields #[i 1,i 0,r 20,i 5,i 0,r 27,i 14,i 0,r 47,i 23,i 0,r 68,i 25,i 0,r 75,i 30,i 0,r 82,i 99,i 0,r 145]),#[]⟩
noncomputable def o61 (P:Params):Obj:=⟨t "dict",none,(.dict #[k P z179 300 (s z169 227),k P z181 302 (s z202 301),k P z182 304 (.int (30) 303),k P z183 314 (r 90),k P z204 321 (r 97),k P z205 329 (r 104),k P z206 338 (r 111),k P z207 346 (r 118),k P z208 355 (r 125),k P z209 362 (r 132),k P z184 369 (r 133)] 11),#[]⟩
noncomputable def o62 (P:Params):Obj:=⟨n,none,(.fields #[i 32,i 4,r 89,i 40,i 4,r 96,i 44,i 4,r 103,i 48,i 4,r 110,i 64,i 4,r 117,i 74,i 4,r 124,i 89,i 4,r 131]),#[]⟩
noncomputable def o63 (P:Params):Obj:=⟨t "code",none,(.fields #[s z202 295,s z202 296,s z164 297,i 30,i 0,i 0,i 0,i 0,r 80,b false,i 181,r 81,n,n,n,n,i 298,i 30,s z164 299]),#[]⟩
noncomputable def o64 (P:Params):Obj:=⟨t "frame",none,.plain,#[some (r 82),some (r 3),some (r 79),none,some (s z169 227),none,some (r 0)]⟩
noncomputable def o65 (P:Params):Obj:=⟨t "tuple",none,(.seq #[s z185 308,s z201 309,s z198 310,s z210 311] 0),#[]⟩
noncomputable def o66 (P:Params):Obj:=⟨n,none,(.func (f0 (C 10 0) z211)),#[]⟩
noncomputable def o67 (P:Params):Obj:=⟨t "code",none,(.fields #[s z183 305,s z211 306,s z164 307,i 32,i 4,i 0,i 0,i 3,r 84,b true,i 181,r 85,n,r 86,r 87,r 88,i 312,i 32,s z164 313]),#[]⟩
noncomputable def o68 (P:Params):Obj:=⟨t "function",none,(.func (fD (C 10 0) z211 n (s z169 227) (r 89))),#[]⟩
noncomputable def o69 (P:Params):Obj:=⟨t "tuple",none,(.seq #[s z185 318] 0),#[]⟩
noncomputable def o70 (P:Params):Obj:=⟨n,none,(.func (f0 (C 10 1) z212)),#[]⟩
noncomputable def o71 (P:Params):Obj:=⟨t "code",none,(.fields #[s z204 315,s z212 316,s z164 317,i 40,i 1,i 0,i 0,i 3,r 91,b true,i 181,r 92,n,r 93,r 94,r 95,i 319,i 40,s z164 320]),#[]⟩
noncomputable def o72 (P:Params):Obj:=⟨t "function",none,(.func (fD (C 10 1) z212 n (s z169 227) (r 96))),#[]⟩
noncomputable def o73 (P:Params):Obj:=⟨t "tuple",none,(.seq #[s z185 325,s z210 326] 0),#[]⟩
noncomputable def o74 (P:Params):Obj:=⟨n,none,(.func (f0 (C 10 2) z213)),#[]⟩
noncomputable def o75 (P:Params):Obj:=⟨t "code",none,(.fields #[s z205 322,s z213 323,s z164 324,i 44,i 2,i 0,i 0,i 3,r 98,b true,i 181,r 99,n,r 100,r 101,r 102,i 327,i 44,s z164 328]),#[]⟩
noncomputable def o76 (P:Params):Obj:=⟨t "function",none,(.func (fD (C 10 2) z213 n (s z169 227) (r 103))),#[]⟩
noncomputable def o77 (P:Params):Obj:=⟨t "tuple",none,(.seq #[s z185 333,s z201 334,s z198 335] 0),#[]⟩
noncomputable def o78 (P:Params):Obj:=⟨n,none,(.func (f0 (C 10 3) z214)),#[]⟩
noncomputable def o79 (P:Params):Obj:=⟨t "code",none,(.fields #[s z206 330,s z214 331,s z164 332,i 48,i 1,i 0,i 0,i 3,r 105,b true,i 181,r 106,n,r 107,r 108,r 109,i 336,i 48,s z164 337]),#[]⟩
noncomputable def o80 (P:Params):Obj:=⟨t "function",none,(.func (fD (C 10 3) z214 n (s z169 227) (r 110))),#[]⟩
noncomputable def o81 (P:Params):Obj:=⟨t "tuple",none,(.seq #[s z185 342,s z215 343] 0),#[]⟩
noncomputable def o82 (P:Params):Obj:=⟨n,none,(.func (f0 (C 10 4) z216)),#[]⟩
noncomputable def o83 (P:Params):Obj:=⟨t "code",none,(.fields #[s z207 339,s z216 340,s z164 341,i 64,i 1,i 0,i 0,i 3,r 112,b true,i 181,r 113,n,r 114,r 115,r 116,i 344,i 64,s z164 345]),#[]⟩
noncomputable def o84 (P:Params):Obj:=⟨t "function",none,(.func (fD (C 10 4) z216 n (s z169 227) (r 117))),#[]⟩
noncomputable def o85 (P:Params):Obj:=⟨t "tuple",none,(.seq #[s z185 350,s z201 351,s z217 352] 0),#[]⟩
noncomputable def o86 (P:Params):Obj:=⟨n,none,(.func (f0 (C 10 5) z218)),#[]⟩
noncomputable def o87 (P:Params):Obj:=⟨t "code",none,(.fields #[s z208 347,s z218 348,s z164 349,i 74,i 1,i 0,i 0,i 3,r 119,b true,i 181,r 120,n,r 121,r 122,r 123,i 353,i 74,s z164 354]),#[]⟩
noncomputable def o88 (P:Params):Obj:=⟨t "function",none,(.func (fD (C 10 5) z218 n (s z169 227) (r 124))),#[]⟩
noncomputable def o89 (P:Params):Obj:=⟨t "tuple",none,(.seq #[s z185 359] 0),#[]⟩
noncomputable def o90 (P:Params):Obj:=⟨n,none,(.func (f0 (C 10 6) z219)),#[]⟩
noncomputable def o91 (P:Params):Obj:=⟨t "code",none,(.fields #[s z209 356,s z219 357,s z164 358,i 89,i 1,i 0,i 0,i 3,r 126,b true,i 181,r 127,n,r 128,r 129,r 130,i 360,i 89,s z164 361]),#[]⟩
noncomputable def o92 (P:Params):Obj:=⟨t "function",none,(.func (fD (C 10 6) z219 n (s z169 227) (r 131))),#[]⟩
noncomputable def o93 (P:Params):Obj:=⟨t "tuple",none,(.seq #[s z200 363,s z220 364,s z198 365,s z201 366,s z221 367,s z210 368] 0),#[]⟩
noncomputable def o94 (P:Params):Obj:=⟨t "dict",none,(.dict #[k P z179 300 (s z169 227),k P z182 304 (.int (30) 303),k P z183 314 (r 90),k P z204 321 (r 97),k P z205 329 (r 104),k P z206 338 (r 111),k P z207 346 (r 118),k P z208 355 (r 125),k P z209 362 (r 132),k P z184 369 (r 133),k P z197 371 (r 136),k P z189 373 (r 137),k P z2 374 n] 4),#[]⟩
noncomputable def o95 (P:Params):Obj:=⟨t "type",none,(.cls ⟨z202,[t "object"],[r 135,t "object"],134,z202,true,[],[],false,none,false⟩),#[none,none,some (s z202 293),some (s z202 301),some (u "object.__new__"),some (b true)]⟩
noncomputable def o96 (P:Params):Obj:=⟨t "getset_descriptor",none,(.fields #[s z197 370,r 135,u "function.__dict__",u "function.__dict__#set"]),#[]⟩
noncomputable def o97 (P:Params):Obj:=⟨t "getset_descriptor",none,(.fields #[s z189 372,r 135,u "ExceptionGroup.__weakref__",n]),#[]⟩
noncomputable def o98 (P:Params):Obj:=⟨t "super",none,(.fields #[r 135,r 135,r 135]),#[]⟩
noncomputable def o99 (P:Params):Obj:=⟨t "builtin_function_or_method",none,(.fields #[u "object.__init_subclass__",r 135]),#[]⟩
noncomputable def o100 (P:Params):Obj:=⟨t "tuple",none,(.seq #[s z201 380,s z198 381,s z210 382,s z222 383] 0),#[]⟩
noncomputable def o101 (P:Params):Obj:=⟨n,none,(.func (f0 (T 11) z203)),#[]⟩
noncomputable def o102 (P:Params):Obj:=⟨t "code",none,(.fields #[s z203 377,s z203 378,s z164 379,i 99,i 3,i 0,i 0,i 3,r 140,b true,i 181,r 141,n,r 142,r 143,r 144,i 384,i 99,s z164 385]),#[]⟩
noncomputable def o103 (P:Params):Obj:=⟨t "function",none,(.func (fD (T 11) z203 n (s z169 227) (r 145))),#[]⟩
noncomputable def o104 (P:Params):Obj:=⟨t "dict",none,(.dict #[k P z0 165 (s z223 442),k P z2 166 n,k P z3 167 n,k P z4 168 (u "__main__.__loader__#opaque"),k P z5 169 n,k P z161 170 (r 6),k P z162 171 (r 4),k P z163 173 (s z164 172),k P z165 174 n,k P z170 193 (r 21),k P z171 226 (r 38),k P z172 230 (.int (0) 229),k P z173 232 (.int (1) 231),k P z174 234 (.int (2) 233),k P z175 273 (r 58),k P z176 282 (r 69),k P z177 292 (r 76),k P z202 376 (r 135),k P z203 386 (r 146),k P z224 441 (r 177),k P z225 445 (.int (0) 444),k P z226 447 (.int (1) 446),k P z227 449 (.int (2) 448),k P z228 451 (.int (3) 450),k P z229 453 (.int (4) 452),k P z230 488 (r 198)] 26),#[]⟩
noncomputable def o105 (P:Params):Obj:=⟨n,none,(.fields #[i 1,i 0,r 20,i 5,i 0,r 27,i 14,i 0,r 47,i 23,i 0,r 68,i 25,i 0,r 75,i 30,i 0,r 82,i 99,i 0,r 145,i 103,i 0,r 152,i 132,i 0,r 187]),#[]⟩
noncomputable def o106 (P:Params):Obj:=⟨t "dict",none,(.dict #[k P z179 394 (s z169 227),k P z181 396 (s z224 395),k P z182 398 (.int (103) 397),k P z183 408 (r 160),k P z231 423 (r 167),k P z232 431 (r 174),k P z184 434 (r 175)] 7),#[]⟩
noncomputable def o107 (P:Params):Obj:=⟨n,none,(.fields #[i 105,i 4,r 159,i 111,i 4,r 166,i 124,i 4,r 173]),#[]⟩
noncomputable def o108 (P:Params):Obj:=⟨t "code",none,(.fields #[s z224 389,s z224 390,s z164 391,i 103,i 0,i 0,i 0,i 0,r 150,b false,i 181,r 151,n,n,n,n,i 392,i 103,s z164 393]),#[]⟩
noncomputable def o109 (P:Params):Obj:=⟨t "frame",none,.plain,#[some (r 152),some (r 3),some (r 149),none,some (s z169 227),none,some (r 0)]⟩
noncomputable def o110 (P:Params):Obj:=⟨t "tuple",none,(.seq #[s z185 402,s z201 403,s z233 404,s z198 405] 0),#[]⟩
noncomputable def o111 (P:Params):Obj:=⟨n,none,(.func (f0 (C 12 0) z234)),#[]⟩
noncomputable def o112 (P:Params):Obj:=⟨t "code",none,(.fields #[s z183 399,s z234 400,s z164 401,i 105,i 3,i 0,i 0,i 3,r 154,b true,i 181,r 155,n,r 156,r 157,r 158,i 406,i 105,s z164 407]),#[]⟩
noncomputable def o113 (P:Params):Obj:=⟨t "function",none,(.func (fD (C 12 0) z234 n (s z169 227) (r 159))),#[]⟩
noncomputable def o114 (P:Params):Obj:=⟨t "tuple",none,(.seq #[s z185 412,s z233 413,s z235 414,s z236 415,s z237 416,s z238 417,s z239 418,s z200 419,s z240 420] 0),#[]⟩
noncomputable def o115 (P:Params):Obj:=⟨n,none,(.func (f0 (C 12 1) z241)),#[]⟩
noncomputable def o116 (P:Params):Obj:=⟨t "code",none,(.fields #[s z231 409,s z241 410,s z164 411,i 111,i 5,i 0,i 0,i 3,r 161,b true,i 181,r 162,n,r 163,r 164,r 165,i 421,i 111,s z164 422]),#[]⟩
noncomputable def o117 (P:Params):Obj:=⟨t "function",none,(.func (fD (C 12 1) z241 n (s z169 227) (r 166))),#[]⟩
noncomputable def o118 (P:Params):Obj:=⟨t "tuple",none,(.seq #[s z185 427,s z242 428] 0),#[]⟩
noncomputable def o119 (P:Params):Obj:=⟨n,none,(.func (f0 (C 12 2) z243)),#[]⟩
noncomputable def o120 (P:Params):Obj:=⟨t "code",none,(.fields #[s z232 424,s z243 425,s z164 426,i 124,i 2,i 0,i 0,i 3,r 168,b true,i 181,r 169,n,r 170,r 171,r 172,i 429,i 124,s z164 430]),#[]⟩
noncomputable def o121 (P:Params):Obj:=⟨t "function",none,(.func (fD (C 12 2) z243 n (s z169 227) (r 173))),#[]⟩
noncomputable def o122 (P:Params):Obj:=⟨t "tuple",none,(.seq #[s z201 432,s z244 433] 0),#[]⟩
noncomputable def o123 (P:Params):Obj:=⟨t "dict",none,(.dict #[k P z179 394 (s z169 227),k P z182 398 (.int (103) 397),k P z183 408 (r 160),k P z231 423 (r 167),k P z232 431 (r 174),k P z184 434 (r 175),k P z197 436 (r 178),k P z189 438 (r 179),k P z2 439 n] 4),#[]⟩
noncomputable def o124 (P:Params):Obj:=⟨t "type",none,(.cls ⟨z224,[t "object"],[r 177,t "object"],176,z224,true,[],[],false,none,false⟩),#[none,none,some (s z224 387),some (s z224 395),some (u "object.__new__"),some (b true)]⟩
noncomputable def o125 (P:Params):Obj:=⟨t "getset_descriptor",none,(.fields #[s z197 435,r 177,u "function.__dict__",u "function.__dict__#set"]),#[]⟩
noncomputable def o126 (P:Params):Obj:=⟨t "getset_descriptor",none,(.fields #[s z189 437,r 177,u "ExceptionGroup.__weakref__",n]),#[]⟩
noncomputable def o127 (P:Params):Obj:=⟨t "super",none,(.fields #[r 177,r 177,r 177]),#[]⟩
noncomputable def o128 (P:Params):Obj:=⟨t "builtin_function_or_method",none,(.fields #[u "object.__init_subclass__",r 177]),#[]⟩
noncomputable def o129 (P:Params):Obj:=⟨t "dict",none,(.dict #[k P z179 461 (s z223 442),k P z181 463 (s z230 462),k P z182 465 (.int (132) 464),k P z183 476 (r 195),k P z184 481 (r 196)] 5),#[]⟩
noncomputable def o130 (P:Params):Obj:=⟨n,none,(.fields #[i 134,i 4,r 194]),#[]⟩
noncomputable def o131 (P:Params):Obj:=⟨t "code",none,(.fields #[s z230 456,s z230 457,s z164 458,i 132,i 0,i 0,i 0,i 0,r 185,b false,i 181,r 186,n,n,n,n,i 459,i 132,s z164 460]),#[]⟩
noncomputable def o132 (P:Params):Obj:=⟨t "frame",none,.plain,#[some (r 187),some (r 3),some (r 184),none,some (s z223 442),none,some (r 0)]⟩
noncomputable def o133 (P:Params):Obj:=⟨t "tuple",none,(.seq #[s z185 469,s z245 470,s z246 471,s z247 472,s z248 473] 0),#[]⟩
noncomputable def o134 (P:Params):Obj:=⟨n,none,(.func (f0 (C 19 0) z249)),#[]⟩
noncomputable def o135 (P:Params):Obj:=⟨t "code",none,(.fields #[s z183 466,s z249 467,s z164 468,i 134,i 5,i 0,i 0,i 3,r 189,b true,i 181,r 190,n,r 191,r 192,r 193,i 474,i 134,s z164 475]),#[]⟩
noncomputable def o136 (P:Params):Obj:=⟨t "function",none,(.func (fD (C 19 0) z249 n (s z223 442) (r 194))),#[]⟩
noncomputable def o137 (P:Params):Obj:=⟨t "tuple",none,(.seq #[s z246 477,s z245 478,s z248 479,s z247 480] 0),#[]⟩
noncomputable def o138 (P:Params):Obj:=⟨t "dict",none,(.dict #[k P z179 461 (s z223 442),k P z182 465 (.int (132) 464),k P z183 476 (r 195),k P z184 481 (r 196),k P z197 483 (r 199),k P z189 485 (r 200),k P z2 486 n] 4),#[]⟩
noncomputable def o139 (P:Params):Obj:=⟨t "type",none,(.cls ⟨z230,[t "object"],[r 198,t "object"],197,z230,true,[],[],false,none,false⟩),#[none,none,some (s z230 454),some (s z230 462),some (u "object.__new__"),some (b true)]⟩
noncomputable def o140 (P:Params):Obj:=⟨t "getset_descriptor",none,(.fields #[s z197 482,r 198,u "function.__dict__",u "function.__dict__#set"]),#[]⟩
noncomputable def o141 (P:Params):Obj:=⟨t "getset_descriptor",none,(.fields #[s z189 484,r 198,u "ExceptionGroup.__weakref__",n]),#[]⟩
noncomputable def o142 (P:Params):Obj:=⟨t "super",none,(.fields #[r 198,r 198,r 198]),#[]⟩
noncomputable def o143 (P:Params):Obj:=⟨t "builtin_function_or_method",none,(.fields #[u "object.__init_subclass__",r 198]),#[]⟩
noncomputable def o144 (P:Params):Obj:=⟨t "dict",none,(.dict #[k P z0 165 (s z223 442),k P z2 166 n,k P z3 167 n,k P z4 168 (u "__main__.__loader__#opaque"),k P z5 169 n,k P z161 170 (r 6),k P z162 171 (r 4),k P z163 173 (s z164 172),k P z165 174 n,k P z170 193 (r 21),k P z171 226 (r 38),k P z172 230 (.int (0) 229),k P z173 232 (.int (1) 231),k P z174 234 (.int (2) 233),k P z175 273 (r 58),k P z176 282 (r 69),k P z177 292 (r 76),k P z202 376 (r 135),k P z203 386 (r 146),k P z224 441 (r 177),k P z225 445 (.int (0) 444),k P z226 447 (.int (1) 446),k P z227 449 (.int (2) 448),k P z228 451 (.int (3) 450),k P z229 453 (.int (4) 452),k P z230 488 (r 198),k P z250 521 (r 219),k P z251 527 (r 228),k P z252 538 (r 235),k P z253 551 (r 242),k P z254 557 (r 247)] 31),#[]⟩
noncomputable def o145 (P:Params):Obj:=⟨n,none,(.fields #[i 1,i 0,r 20,i 5,i 0,r 27,i 14,i 0,r 47,i 23,i 0,r 68,i 25,i 0,r 75,i 30,i 0,r 82,i 99,i 0,r 145,i 103,i 0,r 152,i 132,i 0,r 187,i 139,i 0,r 208,i 145,i 0,r 227,i 155,i 0,r 234,i 163,i 0,r 241,i 173,i 0,r 246]),#[]⟩
noncomputable def o146 (P:Params):Obj:=⟨t "dict",none,(.dict #[k P z179 496 (s z223 442),k P z181 498 (s z250 497),k P z182 500 (.int (139) 499),k P z183 510 (r 216),k P z184 514 (r 217)] 5),#[]⟩
noncomputable def o147 (P:Params):Obj:=⟨n,none,(.fields #[i 141,i 4,r 215]),#[]⟩
noncomputable def o148 (P:Params):Obj:=⟨t "code",none,(.fields #[s z250 491,s z250 492,s z164 493,i 139,i 0,i 0,i 0,i 0,r 206,b false,i 181,r 207,n,n,n,n,i 494,i 139,s z164 495]),#[]⟩
noncomputable def o149 (P:Params):Obj:=⟨t "frame",none,.plain,#[some (r 208),some (r 3),some (r 205),none,some (s z223 442),none,some (r 0)]⟩
noncomputable def o150 (P:Params):Obj:=⟨t "tuple",none,(.seq #[s z185 504,s z255 505,s z256 506,s z257 507] 0),#[]⟩
noncomputable def o151 (P:Params):Obj:=⟨n,none,(.func (f0 (C 20 0) z258)),#[]⟩
noncomputable def o152 (P:Params):Obj:=⟨t "code",none,(.fields #[s z183 501,s z258 502,s z164 503,i 141,i 4,i 0,i 0,i 3,r 210,b true,i 181,r 211,n,r 212,r 213,r 214,i 508,i 141,s z164 509]),#[]⟩
noncomputable def o153 (P:Params):Obj:=⟨t "function",none,(.func (fD (C 20 0) z258 n (s z223 442) (r 215))),#[]⟩
noncomputable def o154 (P:Params):Obj:=⟨t "tuple",none,(.seq #[s z257 511,s z256 512,s z255 513] 0),#[]⟩
noncomputable def o155 (P:Params):Obj:=⟨t "dict",none,(.dict #[k P z179 496 (s z223 442),k P z182 500 (.int (139) 499),k P z183 510 (r 216),k P z184 514 (r 217),k P z197 516 (r 220),k P z189 518 (r 221),k P z2 519 n] 4),#[]⟩
noncomputable def o156 (P:Params):Obj:=⟨t "type",none,(.cls ⟨z250,[t "object"],[r 219,t "object"],218,z250,true,[],[],false,none,false⟩),#[none,none,some (s z250 489),some (s z250 497),some (u "object.__new__"),some (b true)]⟩
noncomputable def o157 (P:Params):Obj:=⟨t "getset_descriptor",none,(.fields #[s z197 515,r 219,u "function.__dict__",u "function.__dict__#set"]),#[]⟩
noncomputable def o158 (P:Params):Obj:=⟨t "getset_descriptor",none,(.fields #[s z189 517,r 219,u "ExceptionGroup.__weakref__",n]),#[]⟩
noncomputable def o159 (P:Params):Obj:=⟨t "super",none,(.fields #[r 219,r 219,r 219]),#[]⟩
noncomputable def o160 (P:Params):Obj:=⟨t "builtin_function_or_method",none,(.fields #[u "object.__init_subclass__",r 219]),#[]⟩
noncomputable def o161 (P:Params):Obj:=⟨n,none,(.func (f0 (T 21) z251)),#[]⟩
noncomputable def o162 (P:Params):Obj:=⟨t "code",none,(.fields #[s z251 522,s z251 523,s z164 524,i 145,i 5,i 0,i 0,i 3,r 224,b true,i 181,r 225,n,n,n,r 226,i 525,i 145,s z164 526]),#[]⟩
noncomputable def o163 (P:Params):Obj:=⟨t "function",none,(.func (fD (T 21) z251 n (s z223 442) (r 227))),#[]⟩
noncomputable def o164 (P:Params):Obj:=⟨t "tuple",none,(.seq #[s z259 531,s z260 532,s z256 533,s z261 534,s z262 535] 0),#[]⟩
noncomputable def o165 (P:Params):Obj:=⟨n,none,(.func (f0 (T 22) z252)),#[]⟩
noncomputable def o166 (P:Params):Obj:=⟨t "code",none,(.fields #[s z252 528,s z252 529,s z164 530,i 155,i 3,i 0,i 0,i 3,r 229,b true,i 181,r 230,n,r 231,r 232,r 233,i 536,i 155,s z164 537]),#[]⟩
noncomputable def o167 (P:Params):Obj:=⟨t "function",none,(.func (fD (T 22) z252 n (s z223 442) (r 234))),#[]⟩
noncomputable def o168 (P:Params):Obj:=⟨t "tuple",none,(.seq #[s z259 542,s z198 543,s z263 544,s z193 545,s z200 546,s z260 547,s z264 548] 0),#[]⟩
noncomputable def o169 (P:Params):Obj:=⟨n,none,(.func (f0 (T 23) z253)),#[]⟩
noncomputable def o170 (P:Params):Obj:=⟨t "code",none,(.fields #[s z253 539,s z253 540,s z164 541,i 163,i 4,i 0,i 0,i 3,r 236,b true,i 181,r 237,n,r 238,r 239,r 240,i 549,i 163,s z164 550]),#[]⟩
noncomputable def o171 (P:Params):Obj:=⟨t "function",none,(.func (fD (T 23) z253 n (s z223 442) (r 241))),#[]⟩
noncomputable def o172 (P:Params):Obj:=⟨n,none,(.func (f0 (T 24) z254)),#[]⟩
noncomputable def o173 (P:Params):Obj:=⟨t "code",none,(.fields #[s z254 552,s z254 553,s z164 554,i 173,i 6,i 0,i 0,i 3,r 243,b true,i 181,r 244,n,n,n,r 245,i 555,i 173,s z164 556]),#[]⟩
noncomputable def o174 (P:Params):Obj:=⟨t "function",none,(.func (fD (T 24) z254 n (s z223 442) (r 246))),#[]⟩
noncomputable def o175 (P:Params):Obj:=⟨t "dict",none,(.dict #[k P z0 165 (s z223 442),k P z2 166 n,k P z3 167 n,k P z4 168 (u "__main__.__loader__#opaque"),k P z5 169 n,k P z161 170 (r 6),k P z162 171 (r 4),k P z163 173 (s z164 172),k P z165 174 n,k P z170 193 (r 21),k P z171 226 (r 38),k P z172 230 (.int (0) 229),k P z173 232 (.int (1) 231),k P z174 234 (.int (2) 233),k P z175 273 (r 58),k P z176 282 (r 69),k P z177 292 (r 76),k P z202 376 (r 135),k P z203 386 (r 146),k P z224 441 (r 177),k P z225 445 (.int (0) 444),k P z226 447 (.int (1) 446),k P z227 449 (.int (2) 448),k P z228 451 (.int (3) 450),k P z229 453 (.int (4) 452),k P z230 488 (r 198),k P z250 521 (r 219),k P z251 527 (r 228),k P z252 538 (r 235),k P z253 551 (r 242),k P z254 557 (r 247),k P z265 628 (r 288),k P z266 630 (.int (128) 629),k P z267 637 (r 299)] 34),#[]⟩
noncomputable def o176 (P:Params):Obj:=⟨n,none,(.fields #[i 1,i 0,r 20,i 5,i 0,r 27,i 14,i 0,r 47,i 23,i 0,r 68,i 25,i 0,r 75,i 30,i 0,r 82,i 99,i 0,r 145,i 103,i 0,r 152,i 132,i 0,r 187,i 139,i 0,r 208,i 145,i 0,r 227,i 155,i 0,r 234,i 163,i 0,r 241,i 173,i 0,r 246,i 180,i 0,r 253,i 212,i 0,r 298]),#[]⟩
noncomputable def o177 (P:Params):Obj:=⟨t "dict",none,(.dict #[k P z179 565 (s z223 442),k P z181 567 (s z265 566),k P z182 569 (.int (180) 568),k P z183 575 (r 259),k P z268 586 (r 266),k P z269 592 (r 271),k P z231 606 (r 278),k P z270 613 (r 285),k P z184 621 (r 286)] 9),#[]⟩
noncomputable def o178 (P:Params):Obj:=⟨n,none,(.fields #[i 182,i 4,r 258,i 191,i 4,r 265,i 199,i 4,r 270,i 202,i 4,r 277,i 209,i 4,r 284]),#[]⟩
noncomputable def o179 (P:Params):Obj:=⟨t "code",none,(.fields #[s z265 560,s z265 561,s z164 562,i 180,i 0,i 0,i 0,i 0,r 251,b false,i 181,r 252,n,n,n,n,i 563,i 180,s z164 564]),#[]⟩
noncomputable def o180 (P:Params):Obj:=⟨t "frame",none,.plain,#[some (r 253),some (r 3),some (r 250),none,some (s z223 442),none,some (r 0)]⟩
noncomputable def o181 (P:Params):Obj:=⟨n,none,(.func (f0 (C 25 0) z271)),#[]⟩
noncomputable def o182 (P:Params):Obj:=⟨t "code",none,(.fields #[s z183 570,s z271 571,s z164 572,i 182,i 6,i 0,i 0,i 3,r 255,b true,i 181,r 256,n,n,n,r 257,i 573,i 182,s z164 574]),#[]⟩
noncomputable def o183 (P:Params):Obj:=⟨t "function",none,(.func (fD (C 25 0) z271 n (s z223 442) (r 258))),#[]⟩
noncomputable def o184 (P:Params):Obj:=⟨t "tuple",none,(.seq #[s z185 579,s z233 580,s z242 581,s z210 582,s z272 583] 0),#[]⟩
noncomputable def o185 (P:Params):Obj:=⟨n,none,(.func (f0 (C 25 1) z273)),#[]⟩
noncomputable def o186 (P:Params):Obj:=⟨t "code",none,(.fields #[s z268 576,s z273 577,s z164 578,i 191,i 3,i 0,i 0,i 3,r 260,b true,i 181,r 261,n,r 262,r 263,r 264,i 584,i 191,s z164 585]),#[]⟩
noncomputable def o187 (P:Params):Obj:=⟨t "function",none,(.func (fD (C 25 1) z273 n (s z223 442) (r 265))),#[]⟩
noncomputable def o188 (P:Params):Obj:=⟨n,none,(.func (f0 (C 25 2) z274)),#[]⟩
noncomputable def o189 (P:Params):Obj:=⟨t "code",none,(.fields #[s z269 587,s z274 588,s z164 589,i 199,i 4,i 0,i 0,i 3,r 267,b true,i 181,r 268,n,n,n,r 269,i 590,i 199,s z164 591]),#[]⟩
noncomputable def o190 (P:Params):Obj:=⟨t "function",none,(.func (fD (C 25 2) z274 n (s z223 442) (r 270))),#[]⟩
noncomputable def o191 (P:Params):Obj:=⟨t "tuple",none,(.seq #[s z185 596,s z233 597,s z235 598,s z236 599,s z237 600,s z194 601,s z275 602,s z242 603] 0),#[]⟩
noncomputable def o192 (P:Params):Obj:=⟨n,none,(.func (f0 (C 25 3) z276)),#[]⟩
noncomputable def o193 (P:Params):Obj:=⟨t "code",none,(.fields #[s z231 593,s z276 594,s z164 595,i 202,i 5,i 0,i 0,i 3,r 272,b true,i 181,r 273,n,r 274,r 275,r 276,i 604,i 202,s z164 605]),#[]⟩
noncomputable def o194 (P:Params):Obj:=⟨t "function",none,(.func (fD (C 25 3) z276 n (s z223 442) (r 277))),#[]⟩
noncomputable def o195 (P:Params):Obj:=⟨t "tuple",none,(.seq #[s z185 610] 0),#[]⟩
noncomputable def o196 (P:Params):Obj:=⟨n,none,(.func (f0 (C 25 4) z277)),#[]⟩
noncomputable def o197 (P:Params):Obj:=⟨t "code",none,(.fields #[s z270 607,s z277 608,s z164 609,i 209,i 1,i 0,i 0,i 3,r 279,b true,i 181,r 280,n,r 281,r 282,r 283,i 611,i 209,s z164 612]),#[]⟩
noncomputable def o198 (P:Params):Obj:=⟨t "function",none,(.func (fD (C 25 4) z277 n (s z223 442) (r 284))),#[]⟩
noncomputable def o199 (P:Params):Obj:=⟨t "tuple",none,(.seq #[s z278 614,s z259 615,s z279 616,s z280 617,s z201 618,s z244 619,s z281 620] 0),#[]⟩
noncomputable def o200 (P:Params):Obj:=⟨t "dict",none,(.dict #[k P z179 565 (s z223 442),k P z182 569 (.int (180) 568),k P z183 575 (r 259),k P z268 586 (r 266),k P z269 592 (r 271),k P z231 606 (r 278),k P z270 613 (r 285),k P z184 621 (r 286),k P z197 623 (r 289),k P z189 625 (r 290),k P z2 626 n] 4),#[]⟩
noncomputable def o201 (P:Params):Obj:=⟨t "type",none,(.cls ⟨z265,[t "object"],[r 288,t "object"],287,z265,true,[],[],false,none,false⟩),#[none,none,some (s z265 558),some (s z265 566),some (u "object.__new__"),some (b true)]⟩
noncomputable def o202 (P:Params):Obj:=⟨t "getset_descriptor",none,(.fields #[s z197 622,r 288,u "function.__dict__",u "function.__dict__#set"]),#[]⟩
noncomputable def o203 (P:Params):Obj:=⟨t "getset_descriptor",none,(.fields #[s z189 624,r 288,u "ExceptionGroup.__weakref__",n]),#[]⟩
noncomputable def o204 (P:Params):Obj:=⟨t "super",none,(.fields #[r 288,r 288,r 288]),#[]⟩
noncomputable def o205 (P:Params):Obj:=⟨t "builtin_function_or_method",none,(.fields #[u "object.__init_subclass__",r 288]),#[]⟩
noncomputable def o206 (P:Params):Obj:=⟨t "tuple",none,(.seq #[s z215 634] 0),#[]⟩
noncomputable def o207 (P:Params):Obj:=⟨n,none,(.func (f0 (T 27) z267)),#[]⟩
noncomputable def o208 (P:Params):Obj:=⟨t "code",none,(.fields #[s z267 631,s z267 632,s z164 633,i 212,i 1,i 0,i 0,i 3,r 293,b true,i 181,r 294,n,r 295,r 296,r 297,i 635,i 212,s z164 636]),#[]⟩
noncomputable def o209 (P:Params):Obj:=⟨t "function",none,(.func (fD (T 27) z267 n (s z223 442) (r 298))),#[]⟩
noncomputable def o210 (P:Params):Obj:=⟨t "dict",none,(.dict #[k P z0 165 (s z282 679),k P z2 166 n,k P z3 167 n,k P z4 168 (u "__main__.__loader__#opaque"),k P z5 169 n,k P z161 170 (r 6),k P z162 171 (r 4),k P z163 173 (s z164 172),k P z165 174 n,k P z170 193 (r 21),k P z171 226 (r 38),k P z172 230 (.int (0) 229),k P z173 232 (.int (1) 231),k P z174 234 (.int (2) 233),k P z175 273 (r 58),k P z176 282 (r 69),k P z177 292 (r 76),k P z202 376 (r 135),k P z203 386 (r 146),k P z224 441 (r 177),k P z225 445 (.int (0) 444),k P z226 447 (.int (1) 446),k P z227 449 (.int (2) 448),k P z228 451 (.int (3) 450),k P z229 453 (.int (4) 452),k P z230 488 (r 198),k P z250 521 (r 219),k P z251 527 (r 228),k P z252 538 (r 235),k P z253 551 (r 242),k P z254 557 (r 247),k P z265 628 (r 288),k P z266 630 (.int (128) 629),k P z267 637 (r 299),k P z283 678 (r 323)] 35),#[]⟩
noncomputable def o211 (P:Params):Obj:=⟨n,none,(.fields #[i 1,i 0,r 20,i 5,i 0,r 27,i 14,i 0,r 47,i 23,i 0,r 68,i 25,i 0,r 75,i 30,i 0,r 82,i 99,i 0,r 145,i 103,i 0,r 152,i 132,i 0,r 187,i 139,i 0,r 208,i 145,i 0,r 227,i 155,i 0,r 234,i 163,i 0,r 241,i 173,i 0,r 246,i 180,i 0,r 253,i 212,i 0,r 298,i 214,i 0,r 305]),#[]⟩
noncomputable def o212 (P:Params):Obj:=⟨t "dict",none,(.dict #[k P z179 645 (s z223 442),k P z181 647 (s z283 646),k P z182 649 (.int (214) 648),k P z183 657 (r 313),k P z284 669 (r 320),k P z184 671 (r 321)] 6),#[]⟩
noncomputable def o213 (P:Params):Obj:=⟨n,none,(.fields #[i 216,i 4,r 312,i 219,i 4,r 319]),#[]⟩
noncomputable def o214 (P:Params):Obj:=⟨t "code",none,(.fields #[s z283 640,s z283 641,s z164 642,i 214,i 0,i 0,i 0,i 0,r 303,b false,i 181,r 304,n,n,n,n,i 643,i 214,s z164 644]),#[]⟩
noncomputable def o215 (P:Params):Obj:=⟨t "frame",none,.plain,#[some (r 305),some (r 3),some (r 302),none,some (s z223 442),none,some (r 0)]⟩
noncomputable def o216 (P:Params):Obj:=⟨t "tuple",none,(.seq #[s z185 653,s z285 654] 0),#[]⟩
noncomputable def o217 (P:Params):Obj:=⟨n,none,(.func (f0 (C 28 0) z286)),#[]⟩
noncomputable def o218 (P:Params):Obj:=⟨t "code",none,(.fields #[s z183 650,s z286 651,s z164 652,i 216,i 2,i 0,i 0,i 3,r 307,b true,i 181,r 308,n,r 309,r 310,r 311,i 655,i 216,s z164 656]),#[]⟩
noncomputable def o219 (P:Params):Obj:=⟨t "function",none,(.func (fD (C 28 0) z286 n (s z223 442) (r 312))),#[]⟩
noncomputable def o220 (P:Params):Obj:=⟨t "tuple",none,(.seq #[s z185 661,s z198 662,s z193 663,s z194 664,s z200 665,s z287 666] 0),#[]⟩
noncomputable def o221 (P:Params):Obj:=⟨n,none,(.func (f0 (C 28 1) z288)),#[]⟩
noncomputable def o222 (P:Params):Obj:=⟨t "code",none,(.fields #[s z284 658,s z288 659,s z164 660,i 219,i 4,i 0,i 0,i 3,r 314,b true,i 181,r 315,n,r 316,r 317,r 318,i 667,i 219,s z164 668]),#[]⟩
noncomputable def o223 (P:Params):Obj:=⟨t "function",none,(.func (fD (C 28 1) z288 n (s z223 442) (r 319))),#[]⟩
noncomputable def o224 (P:Params):Obj:=⟨t "tuple",none,(.seq #[s z285 670] 0),#[]⟩
noncomputable def o225 (P:Params):Obj:=⟨t "dict",none,(.dict #[k P z179 645 (s z223 442),k P z182 649 (.int (214) 648),k P z183 657 (r 313),k P z284 669 (r 320),k P z184 671 (r 321),k P z197 673 (r 324),k P z189 675 (r 325),k P z2 676 n] 4),#[]⟩
noncomputable def o226 (P:Params):Obj:=⟨t "type",none,(.cls ⟨z283,[t "object"],[r 323,t "object"],322,z283,true,[],[],false,none,false⟩),#[none,none,some (s z283 638),some (s z283 646),some (u "object.__new__"),some (b true)]⟩
noncomputable def o227 (P:Params):Obj:=⟨t "getset_descriptor",none,(.fields #[s z197 672,r 323,u "function.__dict__",u "function.__dict__#set"]),#[]⟩
noncomputable def o228 (P:Params):Obj:=⟨t "getset_descriptor",none,(.fields #[s z189 674,r 323,u "ExceptionGroup.__weakref__",n]),#[]⟩
noncomputable def o229 (P:Params):Obj:=⟨t "super",none,(.fields #[r 323,r 323,r 323]),#[]⟩
noncomputable def o230 (P:Params):Obj:=⟨t "builtin_function_or_method",none,(.fields #[u "object.__init_subclass__",r 323]),#[]⟩
noncomputable def o231 (P:Params):Obj:=⟨t "dict",none,(.dict #[k P z0 165 (s z289 799),k P z2 166 n,k P z3 167 n,k P z4 168 (u "__main__.__loader__#opaque"),k P z5 169 n,k P z161 170 (r 6),k P z162 171 (r 4),k P z163 173 (s z164 172),k P z165 174 n,k P z170 193 (r 21),k P z171 226 (r 38),k P z172 230 (.int (0) 229),k P z173 232 (.int (1) 231),k P z174 234 (.int (2) 233),k P z175 273 (r 58),k P z176 282 (r 69),k P z177 292 (r 76),k P z202 376 (r 135),k P z203 386 (r 146),k P z224 441 (r 177),k P z225 445 (.int (0) 444),k P z226 447 (.int (1) 446),k P z227 449 (.int (2) 448),k P z228 451 (.int (3) 450),k P z229 453 (.int (4) 452),k P z230 488 (r 198),k P z250 521 (r 219),k P z251 527 (r 228),k P z252 538 (r 235),k P z253 551 (r 242),k P z254 557 (r 247),k P z265 628 (r 288),k P z266 630 (.int (128) 629),k P z267 637 (r 299),k P z283 678 (r 323),k P z290 798 (r 414)] 36),#[]⟩
noncomputable def o232 (P:Params):Obj:=⟨n,none,(.fields #[i 1,i 0,r 20,i 5,i 0,r 27,i 14,i 0,r 47,i 23,i 0,r 68,i 25,i 0,r 75,i 30,i 0,r 82,i 99,i 0,r 145,i 103,i 0,r 152,i 132,i 0,r 187,i 139,i 0,r 208,i 145,i 0,r 227,i 155,i 0,r 234,i 163,i 0,r 241,i 173,i 0,r 246,i 180,i 0,r 253,i 212,i 0,r 298,i 214,i 0,r 305,i 233,i 0,r 333]),#[]⟩
noncomputable def o233 (P:Params):Obj:=⟨t "dict",none,(.dict #[k P z179 688 (s z282 679),k P z181 690 (s z290 689),k P z182 692 (.int (233) 691),k P z183 701 (r 341),k P z291 708 (r 348),k P z215 716 (r 355),k P z198 726 (r 362),k P z292 735 (r 369),k P z293 744 (r 376),k P z294 753 (r 383),k P z295 763 (r 390),k P z296 772 (r 397),k P z297 779 (r 404),k P z298 786 (r 411),k P z184 791 (r 412)] 15),#[]⟩
noncomputable def o234 (P:Params):Obj:=⟨n,none,(.fields #[i 235,i 4,r 340,i 241,i 4,r 347,i 244,i 4,r 354,i 249,i 4,r 361,i 257,i 4,r 368,i 268,i 4,r 375,i 274,i 4,r 382,i 280,i 4,r 389,i 290,i 4,r 396,i 293,i 4,r 403,i 296,i 4,r 410]),#[]⟩
noncomputable def o235 (P:Params):Obj:=⟨t "code",none,(.fields #[s z290 683,s z290 684,s z164 685,i 233,i 0,i 0,i 0,i 0,r 331,b false,i 181,r 332,n,n,n,n,i 686,i 233,s z164 687]),#[]⟩
noncomputable def o236 (P:Params):Obj:=⟨t "frame",none,.plain,#[some (r 333),some (r 3),some (r 330),none,some (s z282 679),none,some (r 0)]⟩
noncomputable def o237 (P:Params):Obj:=⟨t "tuple",none,(.seq #[s z185 696,s z198 697,s z299 698] 0),#[]⟩
noncomputable def o238 (P:Params):Obj:=⟨n,none,(.func (f0 (C 30 0) z300)),#[]⟩
noncomputable def o239 (P:Params):Obj:=⟨t "code",none,(.fields #[s z183 693,s z300 694,s z164 695,i 235,i 3,i 0,i 0,i 3,r 335,b true,i 181,r 336,n,r 337,r 338,r 339,i 699,i 235,s z164 700]),#[]⟩
noncomputable def o240 (P:Params):Obj:=⟨t "function",none,(.func (fD (C 30 0) z300 n (s z282 679) (r 340))),#[]⟩
noncomputable def o241 (P:Params):Obj:=⟨t "tuple",none,(.seq #[s z185 705] 0),#[]⟩
noncomputable def o242 (P:Params):Obj:=⟨n,none,(.func (f0 (C 30 1) z301)),#[]⟩
noncomputable def o243 (P:Params):Obj:=⟨t "code",none,(.fields #[s z291 702,s z301 703,s z164 704,i 241,i 1,i 0,i 0,i 3,r 342,b true,i 181,r 343,n,r 344,r 345,r 346,i 706,i 241,s z164 707]),#[]⟩
noncomputable def o244 (P:Params):Obj:=⟨t "function",none,(.func (fD (C 30 1) z301 n (s z282 679) (r 347))),#[]⟩
noncomputable def o245 (P:Params):Obj:=⟨t "tuple",none,(.seq #[s z185 712,s z200 713] 0),#[]⟩
noncomputable def o246 (P:Params):Obj:=⟨n,none,(.func (f0 (C 30 2) z302)),#[]⟩
noncomputable def o247 (P:Params):Obj:=⟨t "code",none,(.fields #[s z215 709,s z302 710,s z164 711,i 244,i 2,i 0,i 0,i 3,r 349,b true,i 181,r 350,n,r 351,r 352,r 353,i 714,i 244,s z164 715]),#[]⟩
noncomputable def o248 (P:Params):Obj:=⟨t "function",none,(.func (fD (C 30 2) z302 n (s z282 679) (r 354))),#[]⟩
noncomputable def o249 (P:Params):Obj:=⟨t "tuple",none,(.seq #[s z185 720,s z193 721,s z194 722,s z303 723] 0),#[]⟩
noncomputable def o250 (P:Params):Obj:=⟨n,none,(.func (f0 (C 30 3) z304)),#[]⟩
noncomputable def o251 (P:Params):Obj:=⟨t "code",none,(.fields #[s z198 717,s z304 718,s z164 719,i 249,i 3,i 0,i 0,i 3,r 356,b true,i 181,r 357,n,r 358,r 359,r 360,i 724,i 249,s z164 725]),#[]⟩
noncomputable def o252 (P:Params):Obj:=⟨t "function",none,(.func (fD (C 30 3) z304 n (s z282 679) (r 361))),#[]⟩
noncomputable def o253 (P:Params):Obj:=⟨t "tuple",none,(.seq #[s z185 730,s z200 731,s z305 732] 0),#[]⟩
noncomputable def o254 (P:Params):Obj:=⟨n,none,(.func (f0 (C 30 4) z306)),#[]⟩
noncomputable def o255 (P:Params):Obj:=⟨t "code",none,(.fields #[s z292 727,s z306 728,s z164 729,i 257,i 2,i 0,i 0,i 3,r 363,b true,i 181,r 364,n,r 365,r 366,r 367,i 733,i 257,s z164 734]),#[]⟩
noncomputable def o256 (P:Params):Obj:=⟨t "function",none,(.func (fD (C 30 4) z306 n (s z282 679) (r 368))),#[]⟩
noncomputable def o257 (P:Params):Obj:=⟨t "tuple",none,(.seq #[s z185 739,s z199 740,s z307 741] 0),#[]⟩
noncomputable def o258 (P:Params):Obj:=⟨n,none,(.func (f0 (C 30 5) z308)),#[]⟩
noncomputable def o259 (P:Params):Obj:=⟨t "code",none,(.fields #[s z293 736,s z308 737,s z164 738,i 268,i 2,i 0,i 0,i 3,r 370,b true,i 181,r 371,n,r 372,r 373,r 374,i 742,i 268,s z164 743]),#[]⟩
noncomputable def o260 (P:Params):Obj:=⟨t "function",none,(.func (fD (C 30 5) z308 n (s z282 679) (r 375))),#[]⟩
noncomputable def o261 (P:Params):Obj:=⟨t "tuple",none,(.seq #[s z185 748,s z200 749,s z198 750] 0),#[]⟩
noncomputable def o262 (P:Params):Obj:=⟨n,none,(.func (f0 (C 30 6) z309)),#[]⟩
noncomputable def o263 (P:Params):Obj:=⟨t "code",none,(.fields #[s z294 745,s z309 746,s z164 747,i 274,i 3,i 0,i 0,i 3,r 377,b true,i 181,r 378,n,r 379,r 380,r 381,i 751,i 274,s z164 752]),#[]⟩
noncomputable def o264 (P:Params):Obj:=⟨t "function",none,(.func (fD (C 30 6) z309 n (s z282 679) (r 382))),#[]⟩
noncomputable def o265 (P:Params):Obj:=⟨t "tuple",none,(.seq #[s z185 757,s z193 758,s z194 759,s z310 760] 0),#[]⟩
noncomputable def o266 (P:Params):Obj:=⟨n,none,(.func (f0 (C 30 7) z311)),#[]⟩
noncomputable def o267 (P:Params):Obj:=⟨t "code",none,(.fields #[s z295 754,s z311 755,s z164 756,i 280,i 3,i 0,i 0,i 3,r 384,b true,i 181,r 385,n,r 386,r 387,r 388,i 761,i 280,s z164 762]),#[]⟩
noncomputable def o268 (P:Params):Obj:=⟨t "function",none,(.func (fD (C 30 7) z311 n (s z282 679) (r 389))),#[]⟩
noncomputable def o269 (P:Params):Obj:=⟨t "tuple",none,(.seq #[s z185 767,s z200 768,s z215 769] 0),#[]⟩
noncomputable def o270 (P:Params):Obj:=⟨n,none,(.func (f0 (C 30 8) z312)),#[]⟩
noncomputable def o271 (P:Params):Obj:=⟨t "code",none,(.fields #[s z296 764,s z312 765,s z164 766,i 290,i 3,i 0,i 0,i 3,r 391,b true,i 181,r 392,n,r 393,r 394,r 395,i 770,i 290,s z164 771]),#[]⟩
noncomputable def o272 (P:Params):Obj:=⟨t "function",none,(.func (fD (C 30 8) z312 n (s z282 679) (r 396))),#[]⟩
noncomputable def o273 (P:Params):Obj:=⟨t "tuple",none,(.seq #[s z185 776] 0),#[]⟩
noncomputable def o274 (P:Params):Obj:=⟨n,none,(.func (f0 (C 30 9) z313)),#[]⟩
noncomputable def o275 (P:Params):Obj:=⟨t "code",none,(.fields #[s z297 773,s z313 774,s z164 775,i 293,i 1,i 0,i 0,i 3,r 398,b true,i 181,r 399,n,r 400,r 401,r 402,i 777,i 293,s z164 778]),#[]⟩
noncomputable def o276 (P:Params):Obj:=⟨t "function",none,(.func (fD (C 30 9) z313 n (s z282 679) (r 403))),#[]⟩
noncomputable def o277 (P:Params):Obj:=⟨t "tuple",none,(.seq #[s z185 783] 0),#[]⟩
noncomputable def o278 (P:Params):Obj:=⟨n,none,(.func (f0 (C 30 10) z314)),#[]⟩
noncomputable def o279 (P:Params):Obj:=⟨t "code",none,(.fields #[s z298 780,s z314 781,s z164 782,i 296,i 1,i 0,i 0,i 3,r 405,b true,i 181,r 406,n,r 407,r 408,r 409,i 784,i 296,s z164 785]),#[]⟩
noncomputable def o280 (P:Params):Obj:=⟨t "function",none,(.func (fD (C 30 10) z314 n (s z282 679) (r 410))),#[]⟩
noncomputable def o281 (P:Params):Obj:=⟨t "tuple",none,(.seq #[s z315 787,s z316 788,s z317 789,s z299 790] 0),#[]⟩
noncomputable def o282 (P:Params):Obj:=⟨t "dict",none,(.dict #[k P z179 688 (s z282 679),k P z182 692 (.int (233) 691),k P z183 701 (r 341),k P z291 708 (r 348),k P z215 716 (r 355),k P z198 726 (r 362),k P z292 735 (r 369),k P z293 744 (r 376),k P z294 753 (r 383),k P z295 763 (r 390),k P z296 772 (r 397),k P z297 779 (r 404),k P z298 786 (r 411),k P z184 791 (r 412),k P z197 793 (r 415),k P z189 795 (r 416),k P z2 796 n] 4),#[]⟩
noncomputable def o283 (P:Params):Obj:=⟨t "type",none,(.cls ⟨z290,[t "object"],[r 414,t "object"],413,z290,true,[],[],false,none,false⟩),#[none,none,some (s z290 681),some (s z290 689),some (u "object.__new__"),some (b true)]⟩
noncomputable def o284 (P:Params):Obj:=⟨t "getset_descriptor",none,(.fields #[s z197 792,r 414,u "function.__dict__",u "function.__dict__#set"]),#[]⟩
noncomputable def o285 (P:Params):Obj:=⟨t "getset_descriptor",none,(.fields #[s z189 794,r 414,u "ExceptionGroup.__weakref__",n]),#[]⟩
noncomputable def o286 (P:Params):Obj:=⟨t "super",none,(.fields #[r 414,r 414,r 414]),#[]⟩
noncomputable def o287 (P:Params):Obj:=⟨t "builtin_function_or_method",none,(.fields #[u "object.__init_subclass__",r 414]),#[]⟩
noncomputable def o288 (P:Params):Obj:=⟨t "dict",none,(.dict #[k P z0 165 (s z318 899),k P z2 166 n,k P z3 167 n,k P z4 168 (u "__main__.__loader__#opaque"),k P z5 169 n,k P z161 170 (r 6),k P z162 171 (r 4),k P z163 173 (s z164 172),k P z165 174 n,k P z170 193 (r 21),k P z171 226 (r 38),k P z172 230 (.int (0) 229),k P z173 232 (.int (1) 231),k P z174 234 (.int (2) 233),k P z175 273 (r 58),k P z176 282 (r 69),k P z177 292 (r 76),k P z202 376 (r 135),k P z203 386 (r 146),k P z224 441 (r 177),k P z225 445 (.int (0) 444),k P z226 447 (.int (1) 446),k P z227 449 (.int (2) 448),k P z228 451 (.int (3) 450),k P z229 453 (.int (4) 452),k P z230 488 (r 198),k P z250 521 (r 219),k P z251 527 (r 228),k P z252 538 (r 235),k P z253 551 (r 242),k P z254 557 (r 247),k P z265 628 (r 288),k P z266 630 (.int (128) 629),k P z267 637 (r 299),k P z283 678 (r 323),k P z290 798 (r 414),k P z319 898 (r 484)] 37),#[]⟩
noncomputable def o289 (P:Params):Obj:=⟨n,none,(.fields #[i 1,i 0,r 20,i 5,i 0,r 27,i 14,i 0,r 47,i 23,i 0,r 68,i 25,i 0,r 75,i 30,i 0,r 82,i 99,i 0,r 145,i 103,i 0,r 152,i 132,i 0,r 187,i 139,i 0,r 208,i 145,i 0,r 227,i 155,i 0,r 234,i 163,i 0,r 241,i 173,i 0,r 246,i 180,i 0,r 253,i 212,i 0,r 298,i 214,i 0,r 305,i 233,i 0,r 333,i 299,i 0,r 424]),#[]⟩
noncomputable def o290 (P:Params):Obj:=⟨t "dict",none,(.dict #[k P z179 808 (s z289 799),k P z181 810 (s z319 809),k P z182 812 (.int (299) 811),k P z183 819 (r 432),k P z320 826 (r 439),k P z296 835 (r 446),k P z321 843 (r 453),k P z322 854 (r 460),k P z323 866 (r 467),k P z324 877 (r 474),k P z325 889 (r 481),k P z184 891 (r 482)] 12),#[]⟩
noncomputable def o291 (P:Params):Obj:=⟨n,none,(.fields #[i 301,i 4,r 431,i 304,i 4,r 438,i 307,i 4,r 445,i 310,i 4,r 452,i 313,i 4,r 459,i 320,i 4,r 466,i 326,i 4,r 473,i 334,i 4,r 480]),#[]⟩
noncomputable def o292 (P:Params):Obj:=⟨t "code",none,(.fields #[s z319 803,s z319 804,s z164 805,i 299,i 0,i 0,i 0,i 0,r 422,b false,i 181,r 423,n,n,n,n,i 806,i 299,s z164 807]),#[]⟩
noncomputable def o293 (P:Params):Obj:=⟨t "frame",none,.plain,#[some (r 424),some (r 3),some (r 421),none,some (s z289 799),none,some (r 0)]⟩
noncomputable def o294 (P:Params):Obj:=⟨t "tuple",none,(.seq #[s z185 816] 0),#[]⟩
noncomputable def o295 (P:Params):Obj:=⟨n,none,(.func (f0 (C 32 0) z326)),#[]⟩
noncomputable def o296 (P:Params):Obj:=⟨t "code",none,(.fields #[s z183 813,s z326 814,s z164 815,i 301,i 1,i 0,i 0,i 3,r 426,b true,i 181,r 427,n,r 428,r 429,r 430,i 817,i 301,s z164 818]),#[]⟩
noncomputable def o297 (P:Params):Obj:=⟨t "function",none,(.func (fD (C 32 0) z326 n (s z289 799) (r 431))),#[]⟩
noncomputable def o298 (P:Params):Obj:=⟨t "tuple",none,(.seq #[s z185 823] 0),#[]⟩
noncomputable def o299 (P:Params):Obj:=⟨n,none,(.func (f0 (C 32 1) z327)),#[]⟩
noncomputable def o300 (P:Params):Obj:=⟨t "code",none,(.fields #[s z320 820,s z327 821,s z164 822,i 304,i 1,i 0,i 0,i 3,r 433,b true,i 181,r 434,n,r 435,r 436,r 437,i 824,i 304,s z164 825]),#[]⟩
noncomputable def o301 (P:Params):Obj:=⟨t "function",none,(.func (fD (C 32 1) z327 n (s z289 799) (r 438))),#[]⟩
noncomputable def o302 (P:Params):Obj:=⟨t "tuple",none,(.seq #[s z185 830,s z328 831,s z329 832] 0),#[]⟩
noncomputable def o303 (P:Params):Obj:=⟨n,none,(.func (f0 (C 32 2) z330)),#[]⟩
noncomputable def o304 (P:Params):Obj:=⟨t "code",none,(.fields #[s z296 827,s z330 828,s z164 829,i 307,i 3,i 0,i 0,i 3,r 440,b true,i 181,r 441,n,r 442,r 443,r 444,i 833,i 307,s z164 834]),#[]⟩
noncomputable def o305 (P:Params):Obj:=⟨t "function",none,(.func (fD (C 32 2) z330 n (s z289 799) (r 445))),#[]⟩
noncomputable def o306 (P:Params):Obj:=⟨t "tuple",none,(.seq #[s z185 839,s z328 840] 0),#[]⟩
noncomputable def o307 (P:Params):Obj:=⟨n,none,(.func (f0 (C 32 3) z331)),#[]⟩
noncomputable def o308 (P:Params):Obj:=⟨t "code",none,(.fields #[s z321 836,s z331 837,s z164 838,i 310,i 2,i 0,i 0,i 3,r 447,b true,i 181,r 448,n,r 449,r 450,r 451,i 841,i 310,s z164 842]),#[]⟩
noncomputable def o309 (P:Params):Obj:=⟨t "function",none,(.func (fD (C 32 3) z331 n (s z289 799) (r 452))),#[]⟩
noncomputable def o310 (P:Params):Obj:=⟨t "tuple",none,(.seq #[s z185 847,s z193 848,s z194 849,s z239 850,s z332 851] 0),#[]⟩
noncomputable def o311 (P:Params):Obj:=⟨n,none,(.func (f0 (C 32 4) z333)),#[]⟩
noncomputable def o312 (P:Params):Obj:=⟨t "code",none,(.fields #[s z322 844,s z333 845,s z164 846,i 313,i 3,i 0,i 0,i 3,r 454,b true,i 181,r 455,n,r 456,r 457,r 458,i 852,i 313,s z164 853]),#[]⟩
noncomputable def o313 (P:Params):Obj:=⟨t "function",none,(.func (fD (C 32 4) z333 n (s z289 799) (r 459))),#[]⟩
noncomputable def o314 (P:Params):Obj:=⟨t "tuple",none,(.seq #[s z185 858,s z193 859,s z194 860,s z334 861,s z332 862,s z328 863] 0),#[]⟩
noncomputable def o315 (P:Params):Obj:=⟨n,none,(.func (f0 (C 32 5) z335)),#[]⟩
noncomputable def o316 (P:Params):Obj:=⟨t "code",none,(.fields #[s z323 855,s z335 856,s z164 857,i 320,i 4,i 0,i 0,i 3,r 461,b true,i 181,r 462,n,r 463,r 464,r 465,i 864,i 320,s z164 865]),#[]⟩
noncomputable def o317 (P:Params):Obj:=⟨t "function",none,(.func (fD (C 32 5) z335 n (s z289 799) (r 466))),#[]⟩
noncomputable def o318 (P:Params):Obj:=⟨t "tuple",none,(.seq #[s z185 870,s z193 871,s z194 872,s z332 873,s z328 874] 0),#[]⟩
noncomputable def o319 (P:Params):Obj:=⟨n,none,(.func (f0 (C 32 6) z336)),#[]⟩
noncomputable def o320 (P:Params):Obj:=⟨t "code",none,(.fields #[s z324 867,s z336 868,s z164 869,i 326,i 3,i 0,i 0,i 3,r 468,b true,i 181,r 469,n,r 470,r 471,r 472,i 875,i 326,s z164 876]),#[]⟩
noncomputable def o321 (P:Params):Obj:=⟨t "function",none,(.func (fD (C 32 6) z336 n (s z289 799) (r 473))),#[]⟩
noncomputable def o322 (P:Params):Obj:=⟨t "tuple",none,(.seq #[s z185 881,s z193 882,s z194 883,s z337 884,s z332 885,s z328 886] 0),#[]⟩
noncomputable def o323 (P:Params):Obj:=⟨n,none,(.func (f0 (C 32 7) z338)),#[]⟩
noncomputable def o324 (P:Params):Obj:=⟨t "code",none,(.fields #[s z325 878,s z338 879,s z164 880,i 334,i 4,i 0,i 0,i 3,r 475,b true,i 181,r 476,n,r 477,r 478,r 479,i 887,i 334,s z164 888]),#[]⟩
noncomputable def o325 (P:Params):Obj:=⟨t "function",none,(.func (fD (C 32 7) z338 n (s z289 799) (r 480))),#[]⟩
noncomputable def o326 (P:Params):Obj:=⟨t "tuple",none,(.seq #[s z339 890] 0),#[]⟩
noncomputable def o327 (P:Params):Obj:=⟨t "dict",none,(.dict #[k P z179 808 (s z289 799),k P z182 812 (.int (299) 811),k P z183 819 (r 432),k P z320 826 (r 439),k P z296 835 (r 446),k P z321 843 (r 453),k P z322 854 (r 460),k P z323 866 (r 467),k P z324 877 (r 474),k P z325 889 (r 481),k P z184 891 (r 482),k P z197 893 (r 485),k P z189 895 (r 486),k P z2 896 n] 4),#[]⟩
noncomputable def o328 (P:Params):Obj:=⟨t "type",none,(.cls ⟨z319,[t "object"],[r 484,t "object"],483,z319,true,[],[],false,none,false⟩),#[none,none,some (s z319 801),some (s z319 809),some (u "object.__new__"),some (b true)]⟩
noncomputable def o329 (P:Params):Obj:=⟨t "getset_descriptor",none,(.fields #[s z197 892,r 484,u "function.__dict__",u "function.__dict__#set"]),#[]⟩
noncomputable def o330 (P:Params):Obj:=⟨t "getset_descriptor",none,(.fields #[s z189 894,r 484,u "ExceptionGroup.__weakref__",n]),#[]⟩
noncomputable def o331 (P:Params):Obj:=⟨t "super",none,(.fields #[r 484,r 484,r 484]),#[]⟩
noncomputable def o332 (P:Params):Obj:=⟨t "builtin_function_or_method",none,(.fields #[u "object.__init_subclass__",r 484]),#[]⟩
noncomputable def o333 (P:Params):Obj:=⟨t "dict",none,(.dict #[k P z0 165 (s z340 943),k P z2 166 n,k P z3 167 n,k P z4 168 (u "__main__.__loader__#opaque"),k P z5 169 n,k P z161 170 (r 6),k P z162 171 (r 4),k P z163 173 (s z164 172),k P z165 174 n,k P z170 193 (r 21),k P z171 226 (r 38),k P z172 230 (.int (0) 229),k P z173 232 (.int (1) 231),k P z174 234 (.int (2) 233),k P z175 273 (r 58),k P z176 282 (r 69),k P z177 292 (r 76),k P z202 376 (r 135),k P z203 386 (r 146),k P z224 441 (r 177),k P z225 445 (.int (0) 444),k P z226 447 (.int (1) 446),k P z227 449 (.int (2) 448),k P z228 451 (.int (3) 450),k P z229 453 (.int (4) 452),k P z230 488 (r 198),k P z250 521 (r 219),k P z251 527 (r 228),k P z252 538 (r 235),k P z253 551 (r 242),k P z254 557 (r 247),k P z265 628 (r 288),k P z266 630 (.int (128) 629),k P z267 637 (r 299),k P z283 678 (r 323),k P z290 798 (r 414),k P z319 898 (r 484),k P z341 942 (r 519)] 38),#[]⟩
noncomputable def o334 (P:Params):Obj:=⟨n,none,(.fields #[i 1,i 0,r 20,i 5,i 0,r 27,i 14,i 0,r 47,i 23,i 0,r 68,i 25,i 0,r 75,i 30,i 0,r 82,i 99,i 0,r 145,i 103,i 0,r 152,i 132,i 0,r 187,i 139,i 0,r 208,i 145,i 0,r 227,i 155,i 0,r 234,i 163,i 0,r 241,i 173,i 0,r 246,i 180,i 0,r 253,i 212,i 0,r 298,i 214,i 0,r 305,i 233,i 0,r 333,i 299,i 0,r 424,i 342,i 0,r 494]),#[]⟩
noncomputable def o335 (P:Params):Obj:=⟨t "dict",none,(.dict #[k P z179 908 (s z318 899),k P z181 910 (s z341 909),k P z182 912 (.int (342) 911),k P z342 919 (r 502),k P z343 926 (r 509),k P z344 934 (r 516),k P z184 935 (r 517)] 7),#[]⟩
noncomputable def o336 (P:Params):Obj:=⟨n,none,(.fields #[i 344,i 4,r 501,i 347,i 4,r 508,i 350,i 4,r 515]),#[]⟩
noncomputable def o337 (P:Params):Obj:=⟨t "code",none,(.fields #[s z341 903,s z341 904,s z164 905,i 342,i 0,i 0,i 0,i 0,r 492,b false,i 181,r 493,n,n,n,n,i 906,i 342,s z164 907]),#[]⟩
noncomputable def o338 (P:Params):Obj:=⟨t "frame",none,.plain,#[some (r 494),some (r 3),some (r 491),none,some (s z318 899),none,some (r 0)]⟩
noncomputable def o339 (P:Params):Obj:=⟨t "tuple",none,(.seq #[s z185 916] 0),#[]⟩
noncomputable def o340 (P:Params):Obj:=⟨n,none,(.func (f0 (C 34 0) z345)),#[]⟩
noncomputable def o341 (P:Params):Obj:=⟨t "code",none,(.fields #[s z342 913,s z345 914,s z164 915,i 344,i 1,i 0,i 0,i 3,r 496,b true,i 181,r 497,n,r 498,r 499,r 500,i 917,i 344,s z164 918]),#[]⟩
noncomputable def o342 (P:Params):Obj:=⟨t "function",none,(.func (fD (C 34 0) z345 n (s z318 899) (r 501))),#[]⟩
noncomputable def o343 (P:Params):Obj:=⟨t "tuple",none,(.seq #[s z185 923] 0),#[]⟩
noncomputable def o344 (P:Params):Obj:=⟨n,none,(.func (f0 (C 34 1) z346)),#[]⟩
noncomputable def o345 (P:Params):Obj:=⟨t "code",none,(.fields #[s z343 920,s z346 921,s z164 922,i 347,i 1,i 0,i 0,i 3,r 503,b true,i 181,r 504,n,r 505,r 506,r 507,i 924,i 347,s z164 925]),#[]⟩
noncomputable def o346 (P:Params):Obj:=⟨t "function",none,(.func (fD (C 34 1) z346 n (s z318 899) (r 508))),#[]⟩
noncomputable def o347 (P:Params):Obj:=⟨t "tuple",none,(.seq #[s z185 930,s z347 931] 0),#[]⟩
noncomputable def o348 (P:Params):Obj:=⟨n,none,(.func (f0 (C 34 2) z348)),#[]⟩
noncomputable def o349 (P:Params):Obj:=⟨t "code",none,(.fields #[s z344 927,s z348 928,s z164 929,i 350,i 2,i 0,i 0,i 3,r 510,b true,i 181,r 511,n,r 512,r 513,r 514,i 932,i 350,s z164 933]),#[]⟩
noncomputable def o350 (P:Params):Obj:=⟨t "function",none,(.func (fD (C 34 2) z348 n (s z318 899) (r 515))),#[]⟩
noncomputable def o351 (P:Params):Obj:=⟨t "dict",none,(.dict #[k P z179 908 (s z318 899),k P z182 912 (.int (342) 911),k P z342 919 (r 502),k P z343 926 (r 509),k P z344 934 (r 516),k P z184 935 (r 517),k P z197 937 (r 520),k P z189 939 (r 521),k P z2 940 n] 4),#[]⟩
noncomputable def o352 (P:Params):Obj:=⟨t "type",none,(.cls ⟨z341,[t "object"],[r 519,t "object"],518,z341,true,[],[],false,none,false⟩),#[none,none,some (s z341 901),some (s z341 909),some (u "object.__new__"),some (b true)]⟩
noncomputable def o353 (P:Params):Obj:=⟨t "getset_descriptor",none,(.fields #[s z197 936,r 519,u "function.__dict__",u "function.__dict__#set"]),#[]⟩
noncomputable def o354 (P:Params):Obj:=⟨t "getset_descriptor",none,(.fields #[s z189 938,r 519,u "ExceptionGroup.__weakref__",n]),#[]⟩
noncomputable def o355 (P:Params):Obj:=⟨t "super",none,(.fields #[r 519,r 519,r 519]),#[]⟩
noncomputable def o356 (P:Params):Obj:=⟨t "builtin_function_or_method",none,(.fields #[u "object.__init_subclass__",r 519]),#[]⟩
noncomputable def o357 (P:Params):Obj:=⟨t "dict",none,(.dict #[k P z0 165 (s z340 943),k P z2 166 n,k P z3 167 n,k P z4 168 (u "__main__.__loader__#opaque"),k P z5 169 n,k P z161 170 (r 6),k P z162 171 (r 4),k P z163 173 (s z164 172),k P z165 174 n,k P z170 193 (r 21),k P z171 226 (r 38),k P z172 230 (.int (0) 229),k P z173 232 (.int (1) 231),k P z174 234 (.int (2) 233),k P z175 273 (r 58),k P z176 282 (r 69),k P z177 292 (r 76),k P z202 376 (r 135),k P z203 386 (r 146),k P z224 441 (r 177),k P z225 445 (.int (0) 444),k P z226 447 (.int (1) 446),k P z227 449 (.int (2) 448),k P z228 451 (.int (3) 450),k P z229 453 (.int (4) 452),k P z230 488 (r 198),k P z250 521 (r 219),k P z251 527 (r 228),k P z252 538 (r 235),k P z253 551 (r 242),k P z254 557 (r 247),k P z265 628 (r 288),k P z266 630 (.int (128) 629),k P z267 637 (r 299),k P z283 678 (r 323),k P z290 798 (r 414),k P z319 898 (r 484),k P z341 942 (r 519),k P z349 1081 (r 625)] 39),#[]⟩
noncomputable def o358 (P:Params):Obj:=⟨n,none,(.fields #[i 1,i 0,r 20,i 5,i 0,r 27,i 14,i 0,r 47,i 23,i 0,r 68,i 25,i 0,r 75,i 30,i 0,r 82,i 99,i 0,r 145,i 103,i 0,r 152,i 132,i 0,r 187,i 139,i 0,r 208,i 145,i 0,r 227,i 155,i 0,r 234,i 163,i 0,r 241,i 173,i 0,r 246,i 180,i 0,r 253,i 212,i 0,r 298,i 214,i 0,r 305,i 233,i 0,r 333,i 299,i 0,r 424,i 342,i 0,r 494,i 353,i 0,r 529]),#[]⟩
noncomputable def o359 (P:Params):Obj:=⟨t "type",none,(.cls ⟨z341,[t "object"],[r 519,t "object"],518,z341,true,[],[r 625],false,none,false⟩),#[none,none,some (s z341 901),some (s z341 909),some (u "object.__new__"),some (b true)]⟩
noncomputable def o360 (P:Params):Obj:=⟨t "tuple",none,(.seq #[r 519] 0),#[]⟩
noncomputable def o361 (P:Params):Obj:=⟨t "dict",none,(.dict #[k P z179 952 (s z340 943),k P z181 954 (s z349 953),k P z182 956 (.int (353) 955),k P z183 967 (r 538),k P z342 974 (r 545),k P z343 981 (r 552),k P z350 988 (r 559),k P z194 995 (r 566),k P z291 1002 (r 573),k P z351 1010 (r 580),k P z198 1019 (r 587),k P z352 1027 (r 594),k P z353 1034 (r 601),k P z354 1041 (r 608),k P z355 1049 (r 615),k P z356 1057 (r 622),k P z184 1078 (r 623)] 17),#[]⟩
noncomputable def o362 (P:Params):Obj:=⟨n,none,(.fields #[i 355,i 4,r 537,i 377,i 4,r 544,i 380,i 4,r 551,i 383,i 4,r 558,i 386,i 4,r 565,i 389,i 4,r 572,i 392,i 4,r 579,i 395,i 4,r 586,i 398,i 4,r 593,i 401,i 4,r 600,i 404,i 4,r 607,i 407,i 4,r 614,i 410,i 4,r 621]),#[]⟩
noncomputable def o363 (P:Params):Obj:=⟨t "code",none,(.fields #[s z349 947,s z349 948,s z164 949,i 353,i 0,i 0,i 0,i 0,r 527,b false,i 181,r 528,n,n,n,n,i 950,i 353,s z164 951]),#[]⟩
noncomputable def o364 (P:Params):Obj:=⟨t "frame",none,.plain,#[some (r 529),some (r 3),some (r 526),none,some (s z340 943),none,some (r 0)]⟩
noncomputable def o365 (P:Params):Obj:=⟨t "tuple",none,(.seq #[(.int (8) 957)] 0),#[]⟩
noncomputable def o366 (P:Params):Obj:=⟨t "tuple",none,(.seq #[s z185 961,s z332 962,s z357 963,s z299 964] 0),#[]⟩
noncomputable def o367 (P:Params):Obj:=⟨n,none,(.func (f0 (C 36 0) z358)),#[]⟩
noncomputable def o368 (P:Params):Obj:=⟨t "code",none,(.fields #[s z183 958,s z358 959,s z164 960,i 355,i 4,i 0,i 0,i 3,r 532,b true,i 181,r 533,n,r 534,r 535,r 536,i 965,i 355,s z164 966]),#[]⟩
noncomputable def o369 (P:Params):Obj:=⟨t "function",none,(.func (fD (C 36 0) z358 (r 531) (s z340 943) (r 537))),#[]⟩
noncomputable def o370 (P:Params):Obj:=⟨t "tuple",none,(.seq #[s z185 971] 0),#[]⟩
noncomputable def o371 (P:Params):Obj:=⟨n,none,(.func (f0 (C 36 1) z359)),#[]⟩
noncomputable def o372 (P:Params):Obj:=⟨t "code",none,(.fields #[s z342 968,s z359 969,s z164 970,i 377,i 1,i 0,i 0,i 3,r 539,b true,i 181,r 540,n,r 541,r 542,r 543,i 972,i 377,s z164 973]),#[]⟩
noncomputable def o373 (P:Params):Obj:=⟨t "function",none,(.func (fD (C 36 1) z359 n (s z340 943) (r 544))),#[]⟩
noncomputable def o374 (P:Params):Obj:=⟨t "tuple",none,(.seq #[s z185 978] 0),#[]⟩
noncomputable def o375 (P:Params):Obj:=⟨n,none,(.func (f0 (C 36 2) z360)),#[]⟩
noncomputable def o376 (P:Params):Obj:=⟨t "code",none,(.fields #[s z343 975,s z360 976,s z164 977,i 380,i 1,i 0,i 0,i 3,r 546,b true,i 181,r 547,n,r 548,r 549,r 550,i 979,i 380,s z164 980]),#[]⟩
noncomputable def o377 (P:Params):Obj:=⟨t "function",none,(.func (fD (C 36 2) z360 n (s z340 943) (r 551))),#[]⟩
noncomputable def o378 (P:Params):Obj:=⟨t "tuple",none,(.seq #[s z185 985] 0),#[]⟩
noncomputable def o379 (P:Params):Obj:=⟨n,none,(.func (f0 (C 36 3) z361)),#[]⟩
noncomputable def o380 (P:Params):Obj:=⟨t "code",none,(.fields #[s z350 982,s z361 983,s z164 984,i 383,i 1,i 0,i 0,i 3,r 553,b true,i 181,r 554,n,r 555,r 556,r 557,i 986,i 383,s z164 987]),#[]⟩
noncomputable def o381 (P:Params):Obj:=⟨t "function",none,(.func (fD (C 36 3) z361 n (s z340 943) (r 558))),#[]⟩
noncomputable def o382 (P:Params):Obj:=⟨t "tuple",none,(.seq #[s z185 992] 0),#[]⟩
noncomputable def o383 (P:Params):Obj:=⟨n,none,(.func (f0 (C 36 4) z362)),#[]⟩
noncomputable def o384 (P:Params):Obj:=⟨t "code",none,(.fields #[s z194 989,s z362 990,s z164 991,i 386,i 1,i 0,i 0,i 3,r 560,b true,i 181,r 561,n,r 562,r 563,r 564,i 993,i 386,s z164 994]),#[]⟩
noncomputable def o385 (P:Params):Obj:=⟨t "function",none,(.func (fD (C 36 4) z362 n (s z340 943) (r 565))),#[]⟩
noncomputable def o386 (P:Params):Obj:=⟨t "tuple",none,(.seq #[s z185 999] 0),#[]⟩
noncomputable def o387 (P:Params):Obj:=⟨n,none,(.func (f0 (C 36 5) z363)),#[]⟩
noncomputable def o388 (P:Params):Obj:=⟨t "code",none,(.fields #[s z291 996,s z363 997,s z164 998,i 389,i 1,i 0,i 0,i 3,r 567,b true,i 181,r 568,n,r 569,r 570,r 571,i 1000,i 389,s z164 1001]),#[]⟩
noncomputable def o389 (P:Params):Obj:=⟨t "function",none,(.func (fD (C 36 5) z363 n (s z340 943) (r 572))),#[]⟩
noncomputable def o390 (P:Params):Obj:=⟨t "tuple",none,(.seq #[s z185 1006,s z364 1007] 0),#[]⟩
noncomputable def o391 (P:Params):Obj:=⟨n,none,(.func (f0 (C 36 6) z365)),#[]⟩
noncomputable def o392 (P:Params):Obj:=⟨t "code",none,(.fields #[s z351 1003,s z365 1004,s z164 1005,i 392,i 2,i 0,i 0,i 3,r 574,b true,i 181,r 575,n,r 576,r 577,r 578,i 1008,i 392,s z164 1009]),#[]⟩
noncomputable def o393 (P:Params):Obj:=⟨t "function",none,(.func (fD (C 36 6) z365 n (s z340 943) (r 579))),#[]⟩
noncomputable def o394 (P:Params):Obj:=⟨t "tuple",none,(.seq #[s z185 1014,s z193 1015,s z194 1016] 0),#[]⟩
noncomputable def o395 (P:Params):Obj:=⟨n,none,(.func (f0 (C 36 7) z366)),#[]⟩
noncomputable def o396 (P:Params):Obj:=⟨t "code",none,(.fields #[s z198 1011,s z366 1012,s z164 1013,i 395,i 3,i 0,i 0,i 3,r 581,b true,i 181,r 582,n,r 583,r 584,r 585,i 1017,i 395,s z164 1018]),#[]⟩
noncomputable def o397 (P:Params):Obj:=⟨t "function",none,(.func (fD (C 36 7) z366 n (s z340 943) (r 586))),#[]⟩
noncomputable def o398 (P:Params):Obj:=⟨t "tuple",none,(.seq #[s z185 1023,s z364 1024] 0),#[]⟩
noncomputable def o399 (P:Params):Obj:=⟨n,none,(.func (f0 (C 36 8) z367)),#[]⟩
noncomputable def o400 (P:Params):Obj:=⟨t "code",none,(.fields #[s z352 1020,s z367 1021,s z164 1022,i 398,i 2,i 0,i 0,i 3,r 588,b true,i 181,r 589,n,r 590,r 591,r 592,i 1025,i 398,s z164 1026]),#[]⟩
noncomputable def o401 (P:Params):Obj:=⟨t "function",none,(.func (fD (C 36 8) z367 n (s z340 943) (r 593))),#[]⟩
noncomputable def o402 (P:Params):Obj:=⟨t "tuple",none,(.seq #[s z185 1031] 0),#[]⟩
noncomputable def o403 (P:Params):Obj:=⟨n,none,(.func (f0 (C 36 9) z368)),#[]⟩
noncomputable def o404 (P:Params):Obj:=⟨t "code",none,(.fields #[s z353 1028,s z368 1029,s z164 1030,i 401,i 1,i 0,i 0,i 3,r 595,b true,i 181,r 596,n,r 597,r 598,r 599,i 1032,i 401,s z164 1033]),#[]⟩
noncomputable def o405 (P:Params):Obj:=⟨t "function",none,(.func (fD (C 36 9) z368 n (s z340 943) (r 600))),#[]⟩
noncomputable def o406 (P:Params):Obj:=⟨t "tuple",none,(.seq #[s z185 1038] 0),#[]⟩
noncomputable def o407 (P:Params):Obj:=⟨n,none,(.func (f0 (C 36 10) z369)),#[]⟩
noncomputable def o408 (P:Params):Obj:=⟨t "code",none,(.fields #[s z354 1035,s z369 1036,s z164 1037,i 404,i 1,i 0,i 0,i 3,r 602,b true,i 181,r 603,n,r 604,r 605,r 606,i 1039,i 404,s z164 1040]),#[]⟩
noncomputable def o409 (P:Params):Obj:=⟨t "function",none,(.func (fD (C 36 10) z369 n (s z340 943) (r 607))),#[]⟩
noncomputable def o410 (P:Params):Obj:=⟨t "tuple",none,(.seq #[s z185 1045,s z370 1046] 0),#[]⟩
noncomputable def o411 (P:Params):Obj:=⟨n,none,(.func (f0 (C 36 11) z371)),#[]⟩
noncomputable def o412 (P:Params):Obj:=⟨t "code",none,(.fields #[s z355 1042,s z371 1043,s z164 1044,i 407,i 2,i 0,i 0,i 3,r 609,b true,i 181,r 610,n,r 611,r 612,r 613,i 1047,i 407,s z164 1048]),#[]⟩
noncomputable def o413 (P:Params):Obj:=⟨t "function",none,(.func (fD (C 36 11) z371 n (s z340 943) (r 614))),#[]⟩
noncomputable def o414 (P:Params):Obj:=⟨t "tuple",none,(.seq #[s z185 1053,s z372 1054] 0),#[]⟩
noncomputable def o415 (P:Params):Obj:=⟨n,none,(.func (f0 (C 36 12) z373)),#[]⟩
noncomputable def o416 (P:Params):Obj:=⟨t "code",none,(.fields #[s z356 1050,s z373 1051,s z164 1052,i 410,i 2,i 0,i 0,i 3,r 616,b true,i 181,r 617,n,r 618,r 619,r 620,i 1055,i 410,s z164 1056]),#[]⟩
noncomputable def o417 (P:Params):Obj:=⟨t "function",none,(.func (fD (C 36 12) z373 n (s z340 943) (r 621))),#[]⟩
noncomputable def o418 (P:Params):Obj:=⟨t "tuple",none,(.seq #[s z374 1058,s z375 1059,s z376 1060,s z377 1061,s z378 1062,s z379 1063,s z35 1064,s z261 1065,s z380 1066,s z357 1067,s z332 1068,s z381 1069,s z382 1070,s z383 1071,s z384 1072,s z385 1073,s z386 1074,s z387 1075,s z388 1076,s z389 1077] 0),#[]⟩
noncomputable def o419 (P:Params):Obj:=⟨t "dict",none,(.dict #[k P z179 952 (s z340 943),k P z182 956 (.int (353) 955),k P z183 967 (r 538),k P z342 974 (r 545),k P z343 981 (r 552),k P z350 988 (r 559),k P z194 995 (r 566),k P z291 1002 (r 573),k P z351 1010 (r 580),k P z198 1019 (r 587),k P z352 1027 (r 594),k P z353 1034 (r 601),k P z354 1041 (r 608),k P z355 1049 (r 615),k P z356 1057 (r 622),k P z184 1078 (r 623),k P z2 1079 n] 2),#[]⟩
noncomputable def o420 (P:Params):Obj:=⟨t "type",none,(.cls ⟨z349,[r 519],[r 625,r 519,t "object"],624,z349,true,[],[],false,none,false⟩),#[some (r 524),none,some (s z349 945),some (s z349 953),some (u "object.__new__"),some (b true)]⟩
noncomputable def o421 (P:Params):Obj:=⟨t "super",none,(.fields #[r 625,r 625,r 625]),#[]⟩
noncomputable def o422 (P:Params):Obj:=⟨t "builtin_function_or_method",none,(.fields #[u "object.__init_subclass__",r 625]),#[]⟩
noncomputable def o423 (P:Params):Obj:=⟨t "dict",none,(.dict #[k P z0 165 (s z390 1145),k P z2 166 n,k P z3 167 n,k P z4 168 (u "__main__.__loader__#opaque"),k P z5 169 n,k P z161 170 (r 6),k P z162 171 (r 4),k P z163 173 (s z164 172),k P z165 174 n,k P z170 193 (r 21),k P z171 226 (r 38),k P z172 230 (.int (0) 229),k P z173 232 (.int (1) 231),k P z174 234 (.int (2) 233),k P z175 273 (r 58),k P z176 282 (r 69),k P z177 292 (r 76),k P z202 376 (r 135),k P z203 386 (r 146),k P z224 441 (r 177),k P z225 445 (.int (0) 444),k P z226 447 (.int (1) 446),k P z227 449 (.int (2) 448),k P z228 451 (.int (3) 450),k P z229 453 (.int (4) 452),k P z230 488 (r 198),k P z250 521 (r 219),k P z251 527 (r 228),k P z252 538 (r 235),k P z253 551 (r 242),k P z254 557 (r 247),k P z265 628 (r 288),k P z266 630 (.int (128) 629),k P z267 637 (r 299),k P z283 678 (r 323),k P z290 798 (r 414),k P z319 898 (r 484),k P z341 942 (r 519),k P z349 1081 (r 625),k P z391 1144 (r 665),k P z392 1150 (.int (4194304) 1149),k P z393 1157 (r 676),k P z394 1165 (r 683),k P z395 1176 (r 690),k P z396 1186 (r 697),k P z397 1197 (r 704),k P z398 1207 (r 711),k P z399 1216 (r 718),k P z400 1225 (r 725),k P z401 1235 (r 732)] 50),#[]⟩
noncomputable def o424 (P:Params):Obj:=⟨n,none,(.fields #[i 1,i 0,r 20,i 5,i 0,r 27,i 14,i 0,r 47,i 23,i 0,r 68,i 25,i 0,r 75,i 30,i 0,r 82,i 99,i 0,r 145,i 103,i 0,r 152,i 132,i 0,r 187,i 139,i 0,r 208,i 145,i 0,r 227,i 155,i 0,r 234,i 163,i 0,r 241,i 173,i 0,r 246,i 180,i 0,r 253,i 212,i 0,r 298,i 214,i 0,r 305,i 233,i 0,r 333,i 299,i 0,r 424,i 342,i 0,r 494,i 353,i 0,r 529,i 415,i 0,r 633,i 442,i 0,r 675,i 445,i 0,r 682,i 448,i 0,r 689,i 453,i 0,r 696,i 456,i 0,r 703,i 460,i 0,r 710,i 468,i 0,r 717,i 475,i 0,r 724,i 480,i 0,r 731]),#[]⟩
noncomputable def o425 (P:Params):Obj:=⟨t "dict",none,(.dict #[k P z179 1091 (s z402 1082),k P z181 1093 (s z391 1092),k P z182 1095 (.int (415) 1094),k P z183 1102 (r 641),k P z403 1112 (r 648),k P z404 1124 (r 655),k P z405 1132 (r 662),k P z184 1137 (r 663)] 8),#[]⟩
noncomputable def o426 (P:Params):Obj:=⟨n,none,(.fields #[i 417,i 4,r 640,i 423,i 4,r 647,i 426,i 4,r 654,i 436,i 4,r 661]),#[]⟩
noncomputable def o427 (P:Params):Obj:=⟨t "code",none,(.fields #[s z391 1086,s z391 1087,s z164 1088,i 415,i 0,i 0,i 0,i 0,r 631,b false,i 181,r 632,n,n,n,n,i 1089,i 415,s z164 1090]),#[]⟩
noncomputable def o428 (P:Params):Obj:=⟨t "frame",none,.plain,#[some (r 633),some (r 3),some (r 630),none,some (s z402 1082),none,some (r 0)]⟩
noncomputable def o429 (P:Params):Obj:=⟨t "tuple",none,(.seq #[s z185 1099] 0),#[]⟩
noncomputable def o430 (P:Params):Obj:=⟨n,none,(.func (f0 (C 38 0) z406)),#[]⟩
noncomputable def o431 (P:Params):Obj:=⟨t "code",none,(.fields #[s z183 1096,s z406 1097,s z164 1098,i 417,i 1,i 0,i 0,i 3,r 635,b true,i 181,r 636,n,r 637,r 638,r 639,i 1100,i 417,s z164 1101]),#[]⟩
noncomputable def o432 (P:Params):Obj:=⟨t "function",none,(.func (fD (C 38 0) z406 n (s z402 1082) (r 640))),#[]⟩
noncomputable def o433 (P:Params):Obj:=⟨t "tuple",none,(.seq #[s z185 1106,s z407 1107,s z193 1108,s z194 1109] 0),#[]⟩
noncomputable def o434 (P:Params):Obj:=⟨n,none,(.func (f0 (C 38 1) z408)),#[]⟩
noncomputable def o435 (P:Params):Obj:=⟨t "code",none,(.fields #[s z403 1103,s z408 1104,s z164 1105,i 423,i 4,i 0,i 0,i 3,r 642,b true,i 181,r 643,n,r 644,r 645,r 646,i 1110,i 423,s z164 1111]),#[]⟩
noncomputable def o436 (P:Params):Obj:=⟨t "function",none,(.func (fD (C 38 1) z408 n (s z402 1082) (r 647))),#[]⟩
noncomputable def o437 (P:Params):Obj:=⟨t "tuple",none,(.seq #[s z185 1116,s z407 1117,s z193 1118,s z194 1119,s z409 1120,s z410 1121] 0),#[]⟩
noncomputable def o438 (P:Params):Obj:=⟨n,none,(.func (f0 (C 38 2) z411)),#[]⟩
noncomputable def o439 (P:Params):Obj:=⟨t "code",none,(.fields #[s z404 1113,s z411 1114,s z164 1115,i 426,i 5,i 0,i 0,i 3,r 649,b true,i 181,r 650,n,r 651,r 652,r 653,i 1122,i 426,s z164 1123]),#[]⟩
noncomputable def o440 (P:Params):Obj:=⟨t "function",none,(.func (fD (C 38 2) z411 n (s z402 1082) (r 654))),#[]⟩
noncomputable def o441 (P:Params):Obj:=⟨t "tuple",none,(.seq #[s z185 1128,s z239 1129] 0),#[]⟩
noncomputable def o442 (P:Params):Obj:=⟨n,none,(.func (f0 (C 38 3) z412)),#[]⟩
noncomputable def o443 (P:Params):Obj:=⟨t "code",none,(.fields #[s z405 1125,s z412 1126,s z164 1127,i 436,i 1,i 0,i 0,i 3,r 656,b true,i 181,r 657,n,r 658,r 659,r 660,i 1130,i 436,s z164 1131]),#[]⟩
noncomputable def o444 (P:Params):Obj:=⟨t "function",none,(.func (fD (C 38 3) z412 n (s z402 1082) (r 661))),#[]⟩
noncomputable def o445 (P:Params):Obj:=⟨t "tuple",none,(.seq #[s z350 1133,s z194 1134,s z410 1135,s z339 1136] 0),#[]⟩
noncomputable def o446 (P:Params):Obj:=⟨t "dict",none,(.dict #[k P z179 1091 (s z402 1082),k P z182 1095 (.int (415) 1094),k P z183 1102 (r 641),k P z403 1112 (r 648),k P z404 1124 (r 655),k P z405 1132 (r 662),k P z184 1137 (r 663),k P z197 1139 (r 666),k P z189 1141 (r 667),k P z2 1142 n] 4),#[]⟩
noncomputable def o447 (P:Params):Obj:=⟨t "type",none,(.cls ⟨z391,[t "object"],[r 665,t "object"],664,z391,true,[],[],false,none,false⟩),#[none,none,some (s z391 1084),some (s z391 1092),some (u "object.__new__"),some (b true)]⟩
noncomputable def o448 (P:Params):Obj:=⟨t "getset_descriptor",none,(.fields #[s z197 1138,r 665,u "function.__dict__",u "function.__dict__#set"]),#[]⟩
noncomputable def o449 (P:Params):Obj:=⟨t "getset_descriptor",none,(.fields #[s z189 1140,r 665,u "ExceptionGroup.__weakref__",n]),#[]⟩
noncomputable def o450 (P:Params):Obj:=⟨t "super",none,(.fields #[r 665,r 665,r 665]),#[]⟩
noncomputable def o451 (P:Params):Obj:=⟨t "builtin_function_or_method",none,(.fields #[u "object.__init_subclass__",r 665]),#[]⟩
noncomputable def o452 (P:Params):Obj:=⟨t "tuple",none,(.seq #[s z407 1154] 0),#[]⟩
noncomputable def o453 (P:Params):Obj:=⟨n,none,(.func (f0 (T 41) z393)),#[]⟩
noncomputable def o454 (P:Params):Obj:=⟨t "code",none,(.fields #[s z393 1151,s z393 1152,s z164 1153,i 442,i 1,i 0,i 0,i 3,r 670,b true,i 181,r 671,n,r 672,r 673,r 674,i 1155,i 442,s z164 1156]),#[]⟩
noncomputable def o455 (P:Params):Obj:=⟨t "function",none,(.func (fD (T 41) z393 n (s z390 1145) (r 675))),#[]⟩
noncomputable def o456 (P:Params):Obj:=⟨t "tuple",none,(.seq #[s z407 1161,s z410 1162] 0),#[]⟩
noncomputable def o457 (P:Params):Obj:=⟨n,none,(.func (f0 (T 42) z394)),#[]⟩
noncomputable def o458 (P:Params):Obj:=⟨t "code",none,(.fields #[s z394 1158,s z394 1159,s z164 1160,i 445,i 2,i 0,i 0,i 3,r 677,b true,i 181,r 678,n,r 679,r 680,r 681,i 1163,i 445,s z164 1164]),#[]⟩
noncomputable def o459 (P:Params):Obj:=⟨t "function",none,(.func (fD (T 42) z394 n (s z390 1145) (r 682))),#[]⟩
noncomputable def o460 (P:Params):Obj:=⟨t "tuple",none,(.seq #[s z407 1169,s z193 1170,s z194 1171,s z413 1172,s z414 1173] 0),#[]⟩
noncomputable def o461 (P:Params):Obj:=⟨n,none,(.func (f0 (T 43) z395)),#[]⟩
noncomputable def o462 (P:Params):Obj:=⟨t "code",none,(.fields #[s z395 1166,s z395 1167,s z164 1168,i 448,i 3,i 0,i 0,i 3,r 684,b true,i 181,r 685,n,r 686,r 687,r 688,i 1174,i 448,s z164 1175]),#[]⟩
noncomputable def o463 (P:Params):Obj:=⟨t "function",none,(.func (fD (T 43) z395 n (s z390 1145) (r 689))),#[]⟩
noncomputable def o464 (P:Params):Obj:=⟨t "tuple",none,(.seq #[s z407 1180,s z193 1181,s z194 1182,s z415 1183] 0),#[]⟩
noncomputable def o465 (P:Params):Obj:=⟨n,none,(.func (f0 (T 44) z396)),#[]⟩
noncomputable def o466 (P:Params):Obj:=⟨t "code",none,(.fields #[s z396 1177,s z396 1178,s z164 1179,i 453,i 3,i 0,i 0,i 3,r 691,b true,i 181,r 692,n,r 693,r 694,r 695,i 1184,i 453,s z164 1185]),#[]⟩
noncomputable def o467 (P:Params):Obj:=⟨t "function",none,(.func (fD (T 44) z396 n (s z390 1145) (r 696))),#[]⟩
noncomputable def o468 (P:Params):Obj:=⟨t "tuple",none,(.seq #[s z407 1190,s z193 1191,s z194 1192,s z409 1193,s z415 1194] 0),#[]⟩
noncomputable def o469 (P:Params):Obj:=⟨n,none,(.func (f0 (T 45) z397)),#[]⟩
noncomputable def o470 (P:Params):Obj:=⟨t "code",none,(.fields #[s z397 1187,s z397 1188,s z164 1189,i 456,i 4,i 0,i 0,i 3,r 698,b true,i 181,r 699,n,r 700,r 701,r 702,i 1195,i 456,s z164 1196]),#[]⟩
noncomputable def o471 (P:Params):Obj:=⟨t "function",none,(.func (fD (T 45) z397 n (s z390 1145) (r 703))),#[]⟩
noncomputable def o472 (P:Params):Obj:=⟨t "tuple",none,(.seq #[s z407 1201,s z193 1202,s z194 1203,s z310 1204] 0),#[]⟩
noncomputable def o473 (P:Params):Obj:=⟨n,none,(.func (f0 (T 46) z398)),#[]⟩
noncomputable def o474 (P:Params):Obj:=⟨t "code",none,(.fields #[s z398 1198,s z398 1199,s z164 1200,i 460,i 3,i 0,i 0,i 3,r 705,b true,i 181,r 706,n,r 707,r 708,r 709,i 1205,i 460,s z164 1206]),#[]⟩
noncomputable def o475 (P:Params):Obj:=⟨t "function",none,(.func (fD (T 46) z398 n (s z390 1145) (r 710))),#[]⟩
noncomputable def o476 (P:Params):Obj:=⟨t "tuple",none,(.seq #[s z407 1211,s z364 1212,s z198 1213] 0),#[]⟩
noncomputable def o477 (P:Params):Obj:=⟨n,none,(.func (f0 (T 47) z399)),#[]⟩
noncomputable def o478 (P:Params):Obj:=⟨t "code",none,(.fields #[s z399 1208,s z399 1209,s z164 1210,i 468,i 3,i 0,i 0,i 3,r 712,b true,i 181,r 713,n,r 714,r 715,r 716,i 1214,i 468,s z164 1215]),#[]⟩
noncomputable def o479 (P:Params):Obj:=⟨t "function",none,(.func (fD (T 47) z399 n (s z390 1145) (r 717))),#[]⟩
noncomputable def o480 (P:Params):Obj:=⟨t "tuple",none,(.seq #[s z407 1220,s z193 1221,s z194 1222] 0),#[]⟩
noncomputable def o481 (P:Params):Obj:=⟨n,none,(.func (f0 (T 48) z400)),#[]⟩
noncomputable def o482 (P:Params):Obj:=⟨t "code",none,(.fields #[s z400 1217,s z400 1218,s z164 1219,i 475,i 3,i 0,i 0,i 3,r 719,b true,i 181,r 720,n,r 721,r 722,r 723,i 1223,i 475,s z164 1224]),#[]⟩
noncomputable def o483 (P:Params):Obj:=⟨t "function",none,(.func (fD (T 48) z400 n (s z390 1145) (r 724))),#[]⟩
noncomputable def o484 (P:Params):Obj:=⟨t "tuple",none,(.seq #[s z407 1229,s z364 1230,s z337 1231,s z416 1232] 0),#[]⟩
noncomputable def o485 (P:Params):Obj:=⟨n,none,(.func (f0 (T 49) z401)),#[]⟩
noncomputable def o486 (P:Params):Obj:=⟨t "code",none,(.fields #[s z401 1226,s z401 1227,s z164 1228,i 480,i 4,i 0,i 0,i 3,r 726,b true,i 181,r 727,n,r 728,r 729,r 730,i 1233,i 480,s z164 1234]),#[]⟩
noncomputable def o487 (P:Params):Obj:=⟨t "function",none,(.func (fD (T 49) z401 n (s z390 1145) (r 731))),#[]⟩
noncomputable def o488 (P:Params):Obj:=⟨t "dict",none,(.dict #[k P z0 165 (s z417 1284),k P z2 166 n,k P z3 167 n,k P z4 168 (u "__main__.__loader__#opaque"),k P z5 169 n,k P z161 170 (r 6),k P z162 171 (r 4),k P z163 173 (s z164 172),k P z165 174 n,k P z170 193 (r 21),k P z171 226 (r 38),k P z172 230 (.int (0) 229),k P z173 232 (.int (1) 231),k P z174 234 (.int (2) 233),k P z175 273 (r 58),k P z176 282 (r 69),k P z177 292 (r 76),k P z202 376 (r 135),k P z203 386 (r 146),k P z224 441 (r 177),k P z225 445 (.int (0) 444),k P z226 447 (.int (1) 446),k P z227 449 (.int (2) 448),k P z228 451 (.int (3) 450),k P z229 453 (.int (4) 452),k P z230 488 (r 198),k P z250 521 (r 219),k P z251 527 (r 228),k P z252 538 (r 235),k P z253 551 (r 242),k P z254 557 (r 247),k P z265 628 (r 288),k P z266 630 (.int (128) 629),k P z267 637 (r 299),k P z283 678 (r 323),k P z290 798 (r 414),k P z319 898 (r 484),k P z341 942 (r 519),k P z349 1081 (r 625),k P z391 1144 (r 665),k P z392 1150 (.int (4194304) 1149),k P z393 1157 (r 676),k P z394 1165 (r 683),k P z395 1176 (r 690),k P z396 1186 (r 697),k P z397 1197 (r 704),k P z398 1207 (r 711),k P z399 1216 (r 718),k P z400 1225 (r 725),k P z401 1235 (r 732),k P z418 1246 (r 739),k P z419 1256 (r 747),k P z295 1268 (r 754),k P z420 1283 (r 762),k P z421 1293 (r 769),k P z422 1300 (r 776),k P z423 1310 (r 783),k P z424 1319 (r 790),k P z425 1328 (r 797),k P z426 1341 (r 804),k P z427 1357 (r 811),k P z428 1363 (r 816)] 62),#[]⟩
noncomputable def o489 (P:Params):Obj:=⟨n,none,(.fields #[i 1,i 0,r 20,i 5,i 0,r 27,i 14,i 0,r 47,i 23,i 0,r 68,i 25,i 0,r 75,i 30,i 0,r 82,i 99,i 0,r 145,i 103,i 0,r 152,i 132,i 0,r 187,i 139,i 0,r 208,i 145,i 0,r 227,i 155,i 0,r 234,i 163,i 0,r 241,i 173,i 0,r 246,i 180,i 0,r 253,i 212,i 0,r 298,i 214,i 0,r 305,i 233,i 0,r 333,i 299,i 0,r 424,i 342,i 0,r 494,i 353,i 0,r 529,i 415,i 0,r 633,i 442,i 0,r 675,i 445,i 0,r 682,i 448,i 0,r 689,i 453,i 0,r 696,i 456,i 0,r 703,i 460,i 0,r 710,i 468,i 0,r 717,i 475,i 0,r 724,i 480,i 0,r 731,i 485,i 0,r 738,i 498,i 0,r 746,i 500,i 0,r 753,i 511,i 0,r 761,i 534,i 0,r 768,i 536,i 0,r 775,i 538,i 0,r 782,i 543,i 0,r 789,i 551,i 0,r 796,i 555,i 0,r 803,i 566,i 0,r 810,i 575,i 0,r 815]),#[]⟩
noncomputable def o490 (P:Params):Obj:=⟨t "tuple",none,(.seq #[s z407 1239,s z364 1240,s z198 1241,s z416 1242,s z429 1243] 0),#[]⟩
noncomputable def o491 (P:Params):Obj:=⟨n,none,(.func (f0 (T 50) z418)),#[]⟩
noncomputable def o492 (P:Params):Obj:=⟨t "code",none,(.fields #[s z418 1236,s z418 1237,s z164 1238,i 485,i 5,i 0,i 0,i 3,r 733,b true,i 181,r 734,n,r 735,r 736,r 737,i 1244,i 485,s z164 1245]),#[]⟩
noncomputable def o493 (P:Params):Obj:=⟨t "function",none,(.func (fD (T 50) z418 n (s z390 1145) (r 738))),#[]⟩
noncomputable def o494 (P:Params):Obj:=⟨t "tuple",none,(.seq #[b false] 0),#[]⟩
noncomputable def o495 (P:Params):Obj:=⟨t "tuple",none,(.seq #[s z407 1250,s z364 1251,s z198 1252,s z416 1253] 0),#[]⟩
noncomputable def o496 (P:Params):Obj:=⟨n,none,(.func (f0 (T 51) z419)),#[]⟩
noncomputable def o497 (P:Params):Obj:=⟨t "code",none,(.fields #[s z419 1247,s z419 1248,s z164 1249,i 498,i 4,i 0,i 0,i 3,r 741,b true,i 181,r 742,n,r 743,r 744,r 745,i 1254,i 498,s z164 1255]),#[]⟩
noncomputable def o498 (P:Params):Obj:=⟨t "function",none,(.func (fD (T 51) z419 (r 740) (s z390 1145) (r 746))),#[]⟩
noncomputable def o499 (P:Params):Obj:=⟨t "tuple",none,(.seq #[s z407 1260,s z193 1261,s z194 1262,s z413 1263,s z414 1264,s z310 1265] 0),#[]⟩
noncomputable def o500 (P:Params):Obj:=⟨n,none,(.func (f0 (T 52) z295)),#[]⟩
noncomputable def o501 (P:Params):Obj:=⟨t "code",none,(.fields #[s z295 1257,s z295 1258,s z164 1259,i 500,i 3,i 0,i 0,i 3,r 748,b true,i 181,r 749,n,r 750,r 751,r 752,i 1266,i 500,s z164 1267]),#[]⟩
noncomputable def o502 (P:Params):Obj:=⟨t "function",none,(.func (fD (T 52) z295 n (s z390 1145) (r 753))),#[]⟩
noncomputable def o503 (P:Params):Obj:=⟨t "tuple",none,(.seq #[n] 0),#[]⟩
noncomputable def o504 (P:Params):Obj:=⟨t "tuple",none,(.seq #[s z407 1272,s z193 1273,s z194 1274,s z198 1275,s z339 1276,s z413 1277,s z414 1278,s z382 1279,s z310 1280] 0),#[]⟩
noncomputable def o505 (P:Params):Obj:=⟨n,none,(.func (f0 (T 53) z420)),#[]⟩
noncomputable def o506 (P:Params):Obj:=⟨t "code",none,(.fields #[s z420 1269,s z420 1270,s z164 1271,i 511,i 5,i 0,i 0,i 3,r 756,b true,i 181,r 757,n,r 758,r 759,r 760,i 1281,i 511,s z164 1282]),#[]⟩
noncomputable def o507 (P:Params):Obj:=⟨t "function",none,(.func (fD (T 53) z420 (r 755) (s z390 1145) (r 761))),#[]⟩
noncomputable def o508 (P:Params):Obj:=⟨t "tuple",none,(.seq #[s z430 1289,s z337 1290] 0),#[]⟩
noncomputable def o509 (P:Params):Obj:=⟨n,none,(.func (f0 (T 55) z421)),#[]⟩
noncomputable def o510 (P:Params):Obj:=⟨t "code",none,(.fields #[s z421 1286,s z421 1287,s z164 1288,i 534,i 2,i 0,i 0,i 3,r 763,b true,i 181,r 764,n,r 765,r 766,r 767,i 1291,i 534,s z164 1292]),#[]⟩
noncomputable def o511 (P:Params):Obj:=⟨t "function",none,(.func (fD (T 55) z421 n (s z417 1284) (r 768))),#[]⟩
noncomputable def o512 (P:Params):Obj:=⟨t "tuple",none,(.seq #[s z430 1297] 0),#[]⟩
noncomputable def o513 (P:Params):Obj:=⟨n,none,(.func (f0 (T 56) z422)),#[]⟩
noncomputable def o514 (P:Params):Obj:=⟨t "code",none,(.fields #[s z422 1294,s z422 1295,s z164 1296,i 536,i 1,i 0,i 0,i 3,r 770,b true,i 181,r 771,n,r 772,r 773,r 774,i 1298,i 536,s z164 1299]),#[]⟩
noncomputable def o515 (P:Params):Obj:=⟨t "function",none,(.func (fD (T 56) z422 n (s z417 1284) (r 775))),#[]⟩
noncomputable def o516 (P:Params):Obj:=⟨t "tuple",none,(.seq #[s z430 1304,s z431 1305,s z239 1306,s z432 1307] 0),#[]⟩
noncomputable def o517 (P:Params):Obj:=⟨n,none,(.func (f0 (T 57) z423)),#[]⟩
noncomputable def o518 (P:Params):Obj:=⟨t "code",none,(.fields #[s z423 1301,s z423 1302,s z164 1303,i 538,i 2,i 0,i 0,i 3,r 777,b true,i 181,r 778,n,r 779,r 780,r 781,i 1308,i 538,s z164 1309]),#[]⟩
noncomputable def o519 (P:Params):Obj:=⟨t "function",none,(.func (fD (T 57) z423 n (s z417 1284) (r 782))),#[]⟩
noncomputable def o520 (P:Params):Obj:=⟨t "tuple",none,(.seq #[s z198 1314,s z239 1315,s z215 1316] 0),#[]⟩
noncomputable def o521 (P:Params):Obj:=⟨n,none,(.func (f0 (T 58) z424)),#[]⟩
noncomputable def o522 (P:Params):Obj:=⟨t "code",none,(.fields #[s z424 1311,s z424 1312,s z164 1313,i 543,i 1,i 0,i 0,i 3,r 784,b true,i 181,r 785,n,r 786,r 787,r 788,i 1317,i 543,s z164 1318]),#[]⟩
noncomputable def o523 (P:Params):Obj:=⟨t "function",none,(.func (fD (T 58) z424 n (s z417 1284) (r 789))),#[]⟩
noncomputable def o524 (P:Params):Obj:=⟨t "tuple",none,(.seq #[s z198 1323,s z201 1324,s z280 1325] 0),#[]⟩
noncomputable def o525 (P:Params):Obj:=⟨n,none,(.func (f0 (T 59) z425)),#[]⟩
noncomputable def o526 (P:Params):Obj:=⟨t "code",none,(.fields #[s z425 1320,s z425 1321,s z164 1322,i 551,i 1,i 0,i 0,i 3,r 791,b true,i 181,r 792,n,r 793,r 794,r 795,i 1326,i 551,s z164 1327]),#[]⟩
noncomputable def o527 (P:Params):Obj:=⟨t "function",none,(.func (fD (T 59) z425 n (s z417 1284) (r 796))),#[]⟩
noncomputable def o528 (P:Params):Obj:=⟨t "tuple",none,(.seq #[s z430 1332,s z407 1333,s z337 1334,s z193 1335,s z194 1336,s z247 1337,s z198 1338] 0),#[]⟩
noncomputable def o529 (P:Params):Obj:=⟨n,none,(.func (f0 (T 60) z426)),#[]⟩
noncomputable def o530 (P:Params):Obj:=⟨t "code",none,(.fields #[s z426 1329,s z426 1330,s z164 1331,i 555,i 2,i 0,i 0,i 3,r 798,b true,i 181,r 799,n,r 800,r 801,r 802,i 1339,i 555,s z164 1340]),#[]⟩
noncomputable def o531 (P:Params):Obj:=⟨t "function",none,(.func (fD (T 60) z426 n (s z417 1284) (r 803))),#[]⟩
noncomputable def o532 (P:Params):Obj:=⟨t "tuple",none,(.seq #[s z433 1345,s z434 1346,s z435 1347,s z198 1348,s z436 1349,s z350 1350,s z194 1351,s z291 1352,s z235 1353,s z236 1354] 0),#[]⟩
noncomputable def o533 (P:Params):Obj:=⟨n,none,(.func (f0 (T 61) z427)),#[]⟩
noncomputable def o534 (P:Params):Obj:=⟨t "code",none,(.fields #[s z427 1342,s z427 1343,s z164 1344,i 566,i 4,i 0,i 0,i 3,r 805,b true,i 181,r 806,n,r 807,r 808,r 809,i 1355,i 566,s z164 1356]),#[]⟩
noncomputable def o535 (P:Params):Obj:=⟨t "function",none,(.func (fD (T 61) z427 n (s z417 1284) (r 810))),#[]⟩
noncomputable def o536 (P:Params):Obj:=⟨n,none,(.func (f0 (T 62) z428)),#[]⟩
noncomputable def o537 (P:Params):Obj:=⟨t "code",none,(.fields #[s z428 1358,s z428 1359,s z164 1360,i 575,i 1,i 0,i 0,i 3,r 812,b true,i 181,r 813,n,n,n,r 814,i 1361,i 575,s z164 1362]),#[]⟩
noncomputable def o538 (P:Params):Obj:=⟨t "function",none,(.func (fD (T 62) z428 n (s z417 1284) (r 815))),#[]⟩
noncomputable def tr0 (P:Params):BT:=(N (o0 P) (N (o1 P) (N (o3 P) (L (o7 P)) (L (o7 P))) (N (o5 P) (L (o9 P)) (L (o11 P)))) (N (o2 P) (N (o4 P) (L (o8 P)) (L (o8 P))) (N (o6 P) (L (o10 P)) (L (o12 P)))))
noncomputable def tr1 (P:Params):BT:=(N (o0 P) (N (o1 P) (N (o14 P) (N (o7 P) (N (o7 P) (N (o26 P) (L (o7 P)) E) (L (o38 P))) (N (o21 P) (N (o33 P) (L (o8 P)) E) (L (o43 P)))) (N (o7 P) (N (o17 P) (N (o29 P) (L (o52 P)) E) (L (o40 P))) (N (o24 P) (N (o21 P) (L (o57 P)) E) (L (o47 P))))) (N (o5 P) (N (o9 P) (N (o16 P) (N (o27 P) (L (o51 P)) E) (L (o7 P))) (N (o7 P) (N (o35 P) (L (o7 P)) E) (L (o45 P)))) (N (o11 P) (N (o19 P) (N (o31 P) (L (o54 P)) E) (L (o41 P))) (N (o7 P) (L (o7 P)) (L (o49 P)))))) (N (o13 P) (N (o4 P) (N (o8 P) (N (o8 P) (N (o7 P) (L (o8 P)) E) (L (o39 P))) (N (o22 P) (N (o34 P) (L (o55 P)) E) (L (o44 P)))) (N (o15 P) (N (o18 P) (N (o30 P) (L (o53 P)) E) (L (o7 P))) (N (o25 P) (N (o36 P) (L (o58 P)) E) (L (o48 P))))) (N (o6 P) (N (o10 P) (N (o7 P) (N (o28 P) (L (o7 P)) E) (L (o8 P))) (N (o23 P) (N (o7 P) (L (o56 P)) E) (L (o46 P)))) (N (o12 P) (N (o20 P) (N (o32 P) (L (o7 P)) E) (L (o42 P))) (N (o8 P) (L (o37 P)) (L (o50 P)))))))
noncomputable def tr2 (P:Params):BT:=(N (o0 P) (N (o1 P) (N (o59 P) (N (o7 P) (N (o7 P) (N (o26 P) (N (o7 P) (L (o8 P)) E) (L (o70 P))) (N (o38 P) (N (o61 P) (L (o7 P)) E) (L (o80 P)))) (N (o21 P) (N (o33 P) (N (o8 P) (L (o95 P)) E) (L (o75 P))) (N (o43 P) (L (o7 P)) (L (o7 P))))) (N (o7 P) (N (o17 P) (N (o29 P) (N (o52 P) (L (o91 P)) E) (L (o8 P))) (N (o40 P) (L (o64 P)) (L (o7 P)))) (N (o24 P) (N (o21 P) (N (o57 P) (L (o99 P)) E) (L (o77 P))) (N (o47 P) (L (o7 P)) (L (o86 P)))))) (N (o5 P) (N (o9 P) (N (o16 P) (N (o27 P) (N (o51 P) (L (o7 P)) E) (L (o72 P))) (N (o7 P) (N (o62 P) (L (o102 P)) E) (L (o8 P)))) (N (o7 P) (N (o35 P) (N (o7 P) (L (o97 P)) E) (L (o7 P))) (N (o45 P) (L (o67 P)) (L (o85 P))))) (N (o11 P) (N (o19 P) (N (o31 P) (N (o54 P) (L (o93 P)) E) (L (o7 P))) (N (o41 P) (L (o8 P)) (L (o83 P)))) (N (o7 P) (N (o7 P) (N (o7 P) (L (o8 P)) E) (L (o78 P))) (N (o49 P) (L (o69 P)) (L (o88 P))))))) (N (o13 P) (N (o4 P) (N (o8 P) (N (o8 P) (N (o7 P) (N (o8 P) (L (o89 P)) E) (L (o71 P))) (N (o39 P) (N (o7 P) (L (o101 P)) E) (L (o7 P)))) (N (o22 P) (N (o34 P) (N (o55 P) (L (o96 P)) E) (L (o76 P))) (N (o44 P) (L (o66 P)) (L (o8 P))))) (N (o60 P) (N (o18 P) (N (o30 P) (N (o53 P) (L (o92 P)) E) (L (o73 P))) (N (o7 P) (L (o7 P)) (L (o82 P)))) (N (o25 P) (N (o36 P) (N (o58 P) (L (o7 P)) E) (L (o7 P))) (N (o48 P) (L (o8 P)) (L (o87 P)))))) (N (o6 P) (N (o10 P) (N (o7 P) (N (o28 P) (N (o7 P) (L (o90 P)) E) (L (o7 P))) (N (o8 P) (N (o63 P) (L (o103 P)) E) (L (o81 P)))) (N (o23 P) (N (o7 P) (N (o56 P) (L (o98 P)) E) (L (o8 P))) (N (o46 P) (L (o68 P)) (L (o7 P))))) (N (o12 P) (N (o20 P) (N (o32 P) (N (o7 P) (L (o94 P)) E) (L (o74 P))) (N (o42 P) (L (o65 P)) (L (o84 P)))) (N (o8 P) (N (o37 P) (N (o21 P) (L (o100 P)) E) (L (o79 P))) (N (o50 P) (L (o7 P)) (L (o7 P))))))))
noncomputable def tr3 (P:Params):BT:=(N (o0 P) (N (o1 P) (N (o104 P) (N (o7 P) (N (o7 P) (N (o26 P) (N (o7 P) (L (o8 P)) (L (o133 P))) (N (o70 P) (L (o112 P)) E)) (N (o38 P) (N (o61 P) (L (o7 P)) E) (N (o80 P) (L (o122 P)) E))) (N (o21 P) (N (o33 P) (N (o8 P) (L (o95 P)) (L (o140 P))) (N (o75 P) (L (o117 P)) E)) (N (o43 P) (N (o7 P) (L (o107 P)) E) (N (o7 P) (L (o21 P)) E)))) (N (o7 P) (N (o17 P) (N (o29 P) (N (o52 P) (L (o91 P)) (L (o136 P))) (N (o8 P) (L (o114 P)) E)) (N (o40 P) (N (o64 P) (L (o7 P)) E) (N (o7 P) (L (o126 P)) E))) (N (o24 P) (N (o21 P) (N (o57 P) (L (o99 P)) E) (N (o77 P) (L (o7 P)) E)) (N (o47 P) (N (o7 P) (L (o8 P)) E) (N (o86 P) (L (o131 P)) E))))) (N (o5 P) (N (o9 P) (N (o16 P) (N (o27 P) (N (o51 P) (L (o7 P)) (L (o134 P))) (N (o72 P) (L (o7 P)) E)) (N (o7 P) (N (o62 P) (L (o102 P)) E) (N (o8 P) (L (o124 P)) E))) (N (o7 P) (N (o35 P) (N (o7 P) (L (o97 P)) (L (o142 P))) (N (o7 P) (L (o8 P)) E)) (N (o45 P) (N (o67 P) (L (o109 P)) E) (N (o85 P) (L (o7 P)) E)))) (N (o11 P) (N (o19 P) (N (o31 P) (N (o54 P) (L (o93 P)) (L (o138 P))) (N (o7 P) (L (o115 P)) E)) (N (o41 P) (N (o8 P) (L (o106 P)) E) (N (o83 P) (L (o128 P)) E))) (N (o7 P) (N (o7 P) (N (o7 P) (L (o8 P)) E) (N (o78 P) (L (o120 P)) E)) (N (o49 P) (N (o69 P) (L (o7 P)) E) (N (o88 P) (L (o7 P)) E)))))) (N (o13 P) (N (o4 P) (N (o8 P) (N (o8 P) (N (o7 P) (N (o8 P) (L (o89 P)) (L (o7 P))) (N (o71 P) (L (o113 P)) E)) (N (o39 P) (N (o7 P) (L (o101 P)) E) (N (o7 P) (L (o123 P)) E))) (N (o22 P) (N (o34 P) (N (o55 P) (L (o96 P)) (L (o141 P))) (N (o76 P) (L (o7 P)) E)) (N (o44 P) (N (o66 P) (L (o108 P)) E) (N (o8 P) (L (o129 P)) E)))) (N (o105 P) (N (o18 P) (N (o30 P) (N (o53 P) (L (o92 P)) (L (o137 P))) (N (o73 P) (L (o7 P)) E)) (N (o7 P) (N (o7 P) (L (o21 P)) E) (N (o82 P) (L (o127 P)) E))) (N (o25 P) (N (o36 P) (N (o58 P) (L (o7 P)) E) (N (o7 P) (L (o119 P)) E)) (N (o48 P) (N (o8 P) (L (o110 P)) E) (N (o87 P) (L (o132 P)) E))))) (N (o6 P) (N (o10 P) (N (o7 P) (N (o28 P) (N (o7 P) (L (o90 P)) (L (o135 P))) (N (o7 P) (L (o8 P)) E)) (N (o8 P) (N (o63 P) (L (o103 P)) E) (N (o81 P) (L (o125 P)) E))) (N (o23 P) (N (o7 P) (N (o56 P) (L (o98 P)) (L (o143 P))) (N (o8 P) (L (o118 P)) E)) (N (o46 P) (N (o68 P) (L (o7 P)) E) (N (o7 P) (L (o130 P)) E)))) (N (o12 P) (N (o20 P) (N (o32 P) (N (o7 P) (L (o94 P)) (L (o139 P))) (N (o74 P) (L (o116 P)) E)) (N (o42 P) (N (o65 P) (L (o7 P)) E) (N (o84 P) (L (o7 P)) E))) (N (o8 P) (N (o37 P) (N (o21 P) (L (o100 P)) E) (N (o79 P) (L (o121 P)) E)) (N (o50 P) (N (o7 P) (L (o111 P)) E) (N (o7 P) (L (o8 P)) E)))))))
noncomputable def tr4 (P:Params):BT:=(N (o0 P) (N (o1 P) (N (o144 P) (N (o7 P) (N (o7 P) (N (o26 P) (N (o7 P) (L (o8 P)) (L (o133 P))) (N (o70 P) (L (o112 P)) (L (o160 P)))) (N (o38 P) (N (o61 P) (L (o7 P)) (L (o147 P))) (N (o80 P) (L (o122 P)) (L (o7 P))))) (N (o21 P) (N (o33 P) (N (o8 P) (L (o95 P)) (L (o140 P))) (N (o75 P) (L (o117 P)) (L (o164 P)))) (N (o43 P) (N (o7 P) (L (o107 P)) (L (o152 P))) (N (o7 P) (L (o21 P)) (L (o174 P)))))) (N (o7 P) (N (o17 P) (N (o29 P) (N (o52 P) (L (o91 P)) (L (o136 P))) (N (o8 P) (L (o114 P)) (L (o162 P)))) (N (o40 P) (N (o64 P) (L (o7 P)) (L (o8 P))) (N (o7 P) (L (o126 P)) (L (o7 P))))) (N (o24 P) (N (o21 P) (N (o57 P) (L (o99 P)) (L (o7 P))) (N (o77 P) (L (o7 P)) (L (o167 P)))) (N (o47 P) (N (o7 P) (L (o8 P)) (L (o156 P))) (N (o86 P) (L (o131 P)) E))))) (N (o5 P) (N (o9 P) (N (o16 P) (N (o27 P) (N (o51 P) (L (o7 P)) (L (o134 P))) (N (o72 P) (L (o7 P)) (L (o8 P)))) (N (o7 P) (N (o62 P) (L (o102 P)) (L (o149 P))) (N (o8 P) (L (o124 P)) (L (o170 P))))) (N (o7 P) (N (o35 P) (N (o7 P) (L (o97 P)) (L (o142 P))) (N (o7 P) (L (o8 P)) (L (o165 P)))) (N (o45 P) (N (o67 P) (L (o109 P)) (L (o154 P))) (N (o85 P) (L (o7 P)) E)))) (N (o11 P) (N (o19 P) (N (o31 P) (N (o54 P) (L (o93 P)) (L (o138 P))) (N (o7 P) (L (o115 P)) (L (o7 P)))) (N (o41 P) (N (o8 P) (L (o106 P)) (L (o7 P))) (N (o83 P) (L (o128 P)) (L (o172 P))))) (N (o7 P) (N (o7 P) (N (o7 P) (L (o8 P)) (L (o146 P))) (N (o78 P) (L (o120 P)) (L (o8 P)))) (N (o49 P) (N (o69 P) (L (o7 P)) (L (o158 P))) (N (o88 P) (L (o7 P)) E)))))) (N (o13 P) (N (o4 P) (N (o8 P) (N (o8 P) (N (o7 P) (N (o8 P) (L (o89 P)) (L (o7 P))) (N (o71 P) (L (o113 P)) (L (o7 P)))) (N (o39 P) (N (o7 P) (L (o101 P)) (L (o148 P))) (N (o7 P) (L (o123 P)) (L (o169 P))))) (N (o22 P) (N (o34 P) (N (o55 P) (L (o96 P)) (L (o141 P))) (N (o76 P) (L (o7 P)) (L (o7 P)))) (N (o44 P) (N (o66 P) (L (o108 P)) (L (o153 P))) (N (o8 P) (L (o129 P)) E)))) (N (o145 P) (N (o18 P) (N (o30 P) (N (o53 P) (L (o92 P)) (L (o137 P))) (N (o73 P) (L (o7 P)) (L (o163 P)))) (N (o7 P) (N (o7 P) (L (o21 P)) (L (o150 P))) (N (o82 P) (L (o127 P)) (L (o8 P))))) (N (o25 P) (N (o36 P) (N (o58 P) (L (o7 P)) (L (o21 P))) (N (o7 P) (L (o119 P)) (L (o7 P)))) (N (o48 P) (N (o8 P) (L (o110 P)) (L (o157 P))) (N (o87 P) (L (o132 P)) E))))) (N (o6 P) (N (o10 P) (N (o7 P) (N (o28 P) (N (o7 P) (L (o90 P)) (L (o135 P))) (N (o7 P) (L (o8 P)) (L (o161 P)))) (N (o8 P) (N (o63 P) (L (o103 P)) (L (o7 P))) (N (o81 P) (L (o125 P)) (L (o171 P))))) (N (o23 P) (N (o7 P) (N (o56 P) (L (o98 P)) (L (o143 P))) (N (o8 P) (L (o118 P)) (L (o166 P)))) (N (o46 P) (N (o68 P) (L (o7 P)) (L (o155 P))) (N (o7 P) (L (o130 P)) E)))) (N (o12 P) (N (o20 P) (N (o32 P) (N (o7 P) (L (o94 P)) (L (o139 P))) (N (o74 P) (L (o116 P)) (L (o8 P)))) (N (o42 P) (N (o65 P) (L (o7 P)) (L (o151 P))) (N (o84 P) (L (o7 P)) (L (o173 P))))) (N (o8 P) (N (o37 P) (N (o21 P) (L (o100 P)) (L (o7 P))) (N (o79 P) (L (o121 P)) (L (o168 P)))) (N (o50 P) (N (o7 P) (L (o111 P)) (L (o159 P))) (N (o7 P) (L (o8 P)) E)))))))
noncomputable def tr5 (P:Params):BT:=(N (o0 P) (N (o1 P) (N (o175 P) (N (o7 P) (N (o7 P) (N (o26 P) (N (o7 P) (N (o8 P) (L (o7 P)) E) (L (o133 P))) (N (o70 P) (N (o112 P) (L (o200 P)) E) (L (o160 P)))) (N (o38 P) (N (o61 P) (N (o7 P) (L (o190 P)) E) (L (o147 P))) (N (o80 P) (L (o122 P)) (L (o7 P))))) (N (o21 P) (N (o33 P) (N (o8 P) (N (o95 P) (L (o7 P)) E) (L (o140 P))) (N (o75 P) (N (o117 P) (L (o206 P)) E) (L (o164 P)))) (N (o43 P) (N (o7 P) (N (o107 P) (L (o7 P)) E) (L (o152 P))) (N (o7 P) (L (o21 P)) (L (o174 P)))))) (N (o7 P) (N (o17 P) (N (o29 P) (N (o52 P) (N (o91 P) (L (o183 P)) E) (L (o136 P))) (N (o8 P) (N (o114 P) (L (o204 P)) E) (L (o162 P)))) (N (o40 P) (N (o64 P) (N (o7 P) (L (o7 P)) E) (L (o8 P))) (N (o7 P) (L (o126 P)) (L (o7 P))))) (N (o24 P) (N (o21 P) (N (o57 P) (N (o99 P) (L (o7 P)) E) (L (o7 P))) (N (o77 P) (N (o7 P) (L (o209 P)) E) (L (o167 P)))) (N (o47 P) (N (o7 P) (N (o8 P) (L (o196 P)) E) (L (o156 P))) (N (o86 P) (L (o131 P)) (L (o7 P))))))) (N (o5 P) (N (o9 P) (N (o16 P) (N (o27 P) (N (o51 P) (N (o7 P) (L (o181 P)) E) (L (o134 P))) (N (o72 P) (N (o7 P) (L (o202 P)) E) (L (o8 P)))) (N (o7 P) (N (o62 P) (N (o102 P) (L (o8 P)) E) (L (o149 P))) (N (o8 P) (L (o124 P)) (L (o170 P))))) (N (o7 P) (N (o35 P) (N (o7 P) (N (o97 P) (L (o186 P)) E) (L (o142 P))) (N (o7 P) (N (o8 P) (L (o207 P)) E) (L (o165 P)))) (N (o45 P) (N (o67 P) (N (o109 P) (L (o195 P)) E) (L (o154 P))) (N (o85 P) (L (o7 P)) (L (o21 P)))))) (N (o11 P) (N (o19 P) (N (o31 P) (N (o54 P) (N (o93 P) (L (o8 P)) E) (L (o138 P))) (N (o7 P) (N (o115 P) (L (o7 P)) E) (L (o7 P)))) (N (o41 P) (N (o8 P) (N (o106 P) (L (o193 P)) E) (L (o7 P))) (N (o83 P) (L (o128 P)) (L (o172 P))))) (N (o7 P) (N (o7 P) (N (o7 P) (N (o8 P) (L (o188 P)) E) (L (o146 P))) (N (o78 P) (L (o120 P)) (L (o8 P)))) (N (o49 P) (N (o69 P) (N (o7 P) (L (o198 P)) E) (L (o158 P))) (N (o88 P) (L (o7 P)) (L (o179 P)))))))) (N (o13 P) (N (o4 P) (N (o8 P) (N (o8 P) (N (o7 P) (N (o8 P) (N (o89 P) (L (o8 P)) E) (L (o7 P))) (N (o71 P) (N (o113 P) (L (o201 P)) E) (L (o7 P)))) (N (o39 P) (N (o7 P) (N (o101 P) (L (o7 P)) E) (L (o148 P))) (N (o7 P) (L (o123 P)) (L (o169 P))))) (N (o22 P) (N (o34 P) (N (o55 P) (N (o96 P) (L (o185 P)) E) (L (o141 P))) (N (o76 P) (N (o7 P) (L (o7 P)) E) (L (o7 P)))) (N (o44 P) (N (o66 P) (N (o108 P) (L (o8 P)) E) (L (o153 P))) (N (o8 P) (L (o129 P)) (L (o7 P)))))) (N (o176 P) (N (o18 P) (N (o30 P) (N (o53 P) (N (o92 P) (L (o7 P)) E) (L (o137 P))) (N (o73 P) (N (o7 P) (L (o205 P)) E) (L (o163 P)))) (N (o7 P) (N (o7 P) (N (o21 P) (L (o192 P)) E) (L (o150 P))) (N (o82 P) (L (o127 P)) (L (o8 P))))) (N (o25 P) (N (o36 P) (N (o58 P) (N (o7 P) (L (o8 P)) E) (L (o21 P))) (N (o7 P) (L (o119 P)) (L (o7 P)))) (N (o48 P) (N (o8 P) (N (o110 P) (L (o197 P)) E) (L (o157 P))) (N (o87 P) (L (o132 P)) (L (o178 P))))))) (N (o6 P) (N (o10 P) (N (o7 P) (N (o28 P) (N (o7 P) (N (o90 P) (L (o182 P)) E) (L (o135 P))) (N (o7 P) (N (o8 P) (L (o203 P)) E) (L (o161 P)))) (N (o8 P) (N (o63 P) (N (o103 P) (L (o191 P)) E) (L (o7 P))) (N (o81 P) (L (o125 P)) (L (o171 P))))) (N (o23 P) (N (o7 P) (N (o56 P) (N (o98 P) (L (o187 P)) E) (L (o143 P))) (N (o8 P) (N (o118 P) (L (o208 P)) E) (L (o166 P)))) (N (o46 P) (N (o68 P) (N (o7 P) (L (o7 P)) E) (L (o155 P))) (N (o7 P) (L (o130 P)) (L (o177 P)))))) (N (o12 P) (N (o20 P) (N (o32 P) (N (o7 P) (N (o94 P) (L (o184 P)) E) (L (o139 P))) (N (o74 P) (N (o116 P) (L (o8 P)) E) (L (o8 P)))) (N (o42 P) (N (o65 P) (N (o7 P) (L (o194 P)) E) (L (o151 P))) (N (o84 P) (L (o7 P)) (L (o173 P))))) (N (o8 P) (N (o37 P) (N (o21 P) (N (o100 P) (L (o189 P)) E) (L (o7 P))) (N (o79 P) (L (o121 P)) (L (o168 P)))) (N (o50 P) (N (o7 P) (N (o111 P) (L (o199 P)) E) (L (o159 P))) (N (o7 P) (L (o8 P)) (L (o180 P)))))))))
noncomputable def tr6 (P:Params):BT:=(N (o0 P) (N (o1 P) (N (o210 P) (N (o7 P) (N (o7 P) (N (o26 P) (N (o7 P) (N (o8 P) (L (o7 P)) E) (N (o133 P) (L (o222 P)) E)) (N (o70 P) (N (o112 P) (L (o200 P)) E) (L (o160 P)))) (N (o38 P) (N (o61 P) (N (o7 P) (L (o190 P)) E) (L (o147 P))) (N (o80 P) (N (o122 P) (L (o7 P)) E) (L (o7 P))))) (N (o21 P) (N (o33 P) (N (o8 P) (N (o95 P) (L (o7 P)) E) (N (o140 P) (L (o230 P)) E)) (N (o75 P) (N (o117 P) (L (o206 P)) E) (L (o164 P)))) (N (o43 P) (N (o7 P) (N (o107 P) (L (o7 P)) E) (L (o152 P))) (N (o7 P) (N (o21 P) (L (o217 P)) E) (L (o174 P)))))) (N (o7 P) (N (o17 P) (N (o29 P) (N (o52 P) (N (o91 P) (L (o183 P)) E) (N (o136 P) (L (o226 P)) E)) (N (o8 P) (N (o114 P) (L (o204 P)) E) (L (o162 P)))) (N (o40 P) (N (o64 P) (N (o7 P) (L (o7 P)) E) (L (o8 P))) (N (o7 P) (N (o126 P) (L (o7 P)) E) (L (o7 P))))) (N (o24 P) (N (o21 P) (N (o57 P) (N (o99 P) (L (o7 P)) E) (L (o7 P))) (N (o77 P) (N (o7 P) (L (o209 P)) E) (L (o167 P)))) (N (o47 P) (N (o7 P) (N (o8 P) (L (o196 P)) E) (L (o156 P))) (N (o86 P) (N (o131 P) (L (o8 P)) E) (L (o7 P))))))) (N (o5 P) (N (o9 P) (N (o16 P) (N (o27 P) (N (o51 P) (N (o7 P) (L (o181 P)) E) (N (o134 P) (L (o224 P)) E)) (N (o72 P) (N (o7 P) (L (o202 P)) E) (L (o8 P)))) (N (o7 P) (N (o62 P) (N (o102 P) (L (o8 P)) E) (L (o149 P))) (N (o8 P) (N (o124 P) (L (o214 P)) E) (L (o170 P))))) (N (o7 P) (N (o35 P) (N (o7 P) (N (o97 P) (L (o186 P)) E) (L (o142 P))) (N (o7 P) (N (o8 P) (L (o207 P)) E) (L (o165 P)))) (N (o45 P) (N (o67 P) (N (o109 P) (L (o195 P)) E) (L (o154 P))) (N (o85 P) (N (o7 P) (L (o219 P)) E) (L (o21 P)))))) (N (o11 P) (N (o19 P) (N (o31 P) (N (o54 P) (N (o93 P) (L (o8 P)) E) (N (o138 P) (L (o228 P)) E)) (N (o7 P) (N (o115 P) (L (o7 P)) E) (L (o7 P)))) (N (o41 P) (N (o8 P) (N (o106 P) (L (o193 P)) E) (L (o7 P))) (N (o83 P) (N (o128 P) (L (o216 P)) E) (L (o172 P))))) (N (o7 P) (N (o7 P) (N (o7 P) (N (o8 P) (L (o188 P)) E) (L (o146 P))) (N (o78 P) (N (o120 P) (L (o21 P)) E) (L (o8 P)))) (N (o49 P) (N (o69 P) (N (o7 P) (L (o198 P)) E) (L (o158 P))) (N (o88 P) (N (o7 P) (L (o7 P)) E) (L (o179 P)))))))) (N (o13 P) (N (o4 P) (N (o8 P) (N (o8 P) (N (o7 P) (N (o8 P) (N (o89 P) (L (o8 P)) E) (N (o7 P) (L (o223 P)) E)) (N (o71 P) (N (o113 P) (L (o201 P)) E) (L (o7 P)))) (N (o39 P) (N (o7 P) (N (o101 P) (L (o7 P)) E) (L (o148 P))) (N (o7 P) (N (o123 P) (L (o213 P)) E) (L (o169 P))))) (N (o22 P) (N (o34 P) (N (o55 P) (N (o96 P) (L (o185 P)) E) (L (o141 P))) (N (o76 P) (N (o7 P) (L (o7 P)) E) (L (o7 P)))) (N (o44 P) (N (o66 P) (N (o108 P) (L (o8 P)) E) (L (o153 P))) (N (o8 P) (N (o129 P) (L (o218 P)) E) (L (o7 P)))))) (N (o211 P) (N (o18 P) (N (o30 P) (N (o53 P) (N (o92 P) (L (o7 P)) E) (N (o137 P) (L (o227 P)) E)) (N (o73 P) (N (o7 P) (L (o205 P)) E) (L (o163 P)))) (N (o7 P) (N (o7 P) (N (o21 P) (L (o192 P)) E) (L (o150 P))) (N (o82 P) (N (o127 P) (L (o8 P)) E) (L (o8 P))))) (N (o25 P) (N (o36 P) (N (o58 P) (N (o7 P) (L (o8 P)) E) (L (o21 P))) (N (o7 P) (N (o119 P) (L (o7 P)) E) (L (o7 P)))) (N (o48 P) (N (o8 P) (N (o110 P) (L (o197 P)) E) (L (o157 P))) (N (o87 P) (N (o132 P) (L (o220 P)) E) (L (o178 P))))))) (N (o6 P) (N (o10 P) (N (o7 P) (N (o28 P) (N (o7 P) (N (o90 P) (L (o182 P)) E) (N (o135 P) (L (o225 P)) E)) (N (o7 P) (N (o8 P) (L (o203 P)) E) (L (o161 P)))) (N (o8 P) (N (o63 P) (N (o103 P) (L (o191 P)) E) (L (o7 P))) (N (o81 P) (N (o125 P) (L (o215 P)) E) (L (o171 P))))) (N (o23 P) (N (o7 P) (N (o56 P) (N (o98 P) (L (o187 P)) E) (L (o143 P))) (N (o8 P) (N (o118 P) (L (o208 P)) E) (L (o166 P)))) (N (o46 P) (N (o68 P) (N (o7 P) (L (o7 P)) E) (L (o155 P))) (N (o7 P) (N (o130 P) (L (o7 P)) E) (L (o177 P)))))) (N (o12 P) (N (o20 P) (N (o32 P) (N (o7 P) (N (o94 P) (L (o184 P)) E) (N (o139 P) (L (o229 P)) E)) (N (o74 P) (N (o116 P) (L (o8 P)) E) (L (o8 P)))) (N (o42 P) (N (o65 P) (N (o7 P) (L (o194 P)) E) (L (o151 P))) (N (o84 P) (N (o7 P) (L (o7 P)) E) (L (o173 P))))) (N (o8 P) (N (o37 P) (N (o21 P) (N (o100 P) (L (o189 P)) E) (L (o7 P))) (N (o79 P) (N (o121 P) (L (o212 P)) E) (L (o168 P)))) (N (o50 P) (N (o7 P) (N (o111 P) (L (o199 P)) E) (L (o159 P))) (N (o7 P) (N (o8 P) (L (o221 P)) E) (L (o180 P)))))))))
noncomputable def tr7 (P:Params):BT:=(N (o0 P) (N (o1 P) (N (o231 P) (N (o7 P) (N (o7 P) (N (o26 P) (N (o7 P) (N (o8 P) (L (o7 P)) (L (o264 P))) (N (o133 P) (L (o222 P)) E)) (N (o70 P) (N (o112 P) (L (o200 P)) (L (o284 P))) (N (o160 P) (L (o245 P)) E))) (N (o38 P) (N (o61 P) (N (o7 P) (L (o190 P)) (L (o8 P))) (N (o147 P) (L (o7 P)) E)) (N (o80 P) (N (o122 P) (L (o7 P)) E) (N (o7 P) (L (o254 P)) E)))) (N (o21 P) (N (o33 P) (N (o8 P) (N (o95 P) (L (o7 P)) (L (o7 P))) (N (o140 P) (L (o230 P)) E)) (N (o75 P) (N (o117 P) (L (o206 P)) E) (N (o164 P) (L (o7 P)) E))) (N (o43 P) (N (o7 P) (N (o107 P) (L (o7 P)) (L (o277 P))) (N (o152 P) (L (o8 P)) E)) (N (o7 P) (N (o21 P) (L (o217 P)) E) (N (o174 P) (L (o259 P)) E))))) (N (o7 P) (N (o17 P) (N (o29 P) (N (o52 P) (N (o91 P) (L (o183 P)) (L (o7 P))) (N (o136 P) (L (o226 P)) E)) (N (o8 P) (N (o114 P) (L (o204 P)) E) (N (o162 P) (L (o248 P)) E))) (N (o40 P) (N (o64 P) (N (o7 P) (L (o7 P)) (L (o275 P))) (N (o8 P) (L (o238 P)) E)) (N (o7 P) (N (o126 P) (L (o7 P)) E) (N (o7 P) (L (o8 P)) E)))) (N (o24 P) (N (o21 P) (N (o57 P) (N (o99 P) (L (o7 P)) (L (o270 P))) (N (o7 P) (L (o7 P)) E)) (N (o77 P) (N (o7 P) (L (o209 P)) E) (N (o167 P) (L (o7 P)) E))) (N (o47 P) (N (o7 P) (N (o8 P) (L (o196 P)) (L (o280 P))) (N (o156 P) (L (o243 P)) E)) (N (o86 P) (N (o131 P) (L (o8 P)) E) (N (o7 P) (L (o261 P)) E)))))) (N (o5 P) (N (o9 P) (N (o16 P) (N (o27 P) (N (o51 P) (N (o7 P) (L (o181 P)) (L (o8 P))) (N (o134 P) (L (o224 P)) E)) (N (o72 P) (N (o7 P) (L (o202 P)) (L (o286 P))) (N (o8 P) (L (o246 P)) E))) (N (o7 P) (N (o62 P) (N (o102 P) (L (o8 P)) (L (o7 P))) (N (o149 P) (L (o237 P)) E)) (N (o8 P) (N (o124 P) (L (o214 P)) E) (N (o170 P) (L (o256 P)) E)))) (N (o7 P) (N (o35 P) (N (o7 P) (N (o97 P) (L (o186 P)) (L (o269 P))) (N (o142 P) (L (o21 P)) E)) (N (o7 P) (N (o8 P) (L (o207 P)) E) (N (o165 P) (L (o251 P)) E))) (N (o45 P) (N (o67 P) (N (o109 P) (L (o195 P)) (L (o278 P))) (N (o154 P) (L (o7 P)) E)) (N (o85 P) (N (o7 P) (L (o219 P)) E) (N (o21 P) (L (o7 P)) E))))) (N (o11 P) (N (o19 P) (N (o31 P) (N (o54 P) (N (o93 P) (L (o8 P)) (L (o267 P))) (N (o138 P) (L (o228 P)) E)) (N (o7 P) (N (o115 P) (L (o7 P)) E) (N (o7 P) (L (o8 P)) E))) (N (o41 P) (N (o8 P) (N (o106 P) (L (o193 P)) (L (o7 P))) (N (o7 P) (L (o240 P)) E)) (N (o83 P) (N (o128 P) (L (o216 P)) E) (N (o172 P) (L (o7 P)) E)))) (N (o7 P) (N (o7 P) (N (o7 P) (N (o8 P) (L (o188 P)) (L (o272 P))) (N (o146 P) (L (o235 P)) E)) (N (o78 P) (N (o120 P) (L (o21 P)) E) (N (o8 P) (L (o253 P)) E))) (N (o49 P) (N (o69 P) (N (o7 P) (L (o198 P)) (L (o282 P))) (N (o158 P) (L (o7 P)) E)) (N (o88 P) (N (o7 P) (L (o7 P)) E) (N (o179 P) (L (o262 P)) E))))))) (N (o13 P) (N (o4 P) (N (o8 P) (N (o8 P) (N (o7 P) (N (o8 P) (N (o89 P) (L (o8 P)) (L (o7 P))) (N (o7 P) (L (o223 P)) E)) (N (o71 P) (N (o113 P) (L (o201 P)) (L (o285 P))) (N (o7 P) (L (o7 P)) E))) (N (o39 P) (N (o7 P) (N (o101 P) (L (o7 P)) (L (o273 P))) (N (o148 P) (L (o8 P)) E)) (N (o7 P) (N (o123 P) (L (o213 P)) E) (N (o169 P) (L (o255 P)) E)))) (N (o22 P) (N (o34 P) (N (o55 P) (N (o96 P) (L (o185 P)) (L (o8 P))) (N (o141 P) (L (o7 P)) E)) (N (o76 P) (N (o7 P) (L (o7 P)) E) (N (o7 P) (L (o250 P)) E))) (N (o44 P) (N (o66 P) (N (o108 P) (L (o8 P)) (L (o7 P))) (N (o153 P) (L (o241 P)) E)) (N (o8 P) (N (o129 P) (L (o218 P)) E) (N (o7 P) (L (o260 P)) E))))) (N (o232 P) (N (o18 P) (N (o30 P) (N (o53 P) (N (o92 P) (L (o7 P)) (L (o266 P))) (N (o137 P) (L (o227 P)) E)) (N (o73 P) (N (o7 P) (L (o205 P)) E) (N (o163 P) (L (o7 P)) E))) (N (o7 P) (N (o7 P) (N (o21 P) (L (o192 P)) (L (o276 P))) (N (o150 P) (L (o239 P)) E)) (N (o82 P) (N (o127 P) (L (o8 P)) E) (N (o8 P) (L (o257 P)) E)))) (N (o25 P) (N (o36 P) (N (o58 P) (N (o7 P) (L (o8 P)) (L (o271 P))) (N (o21 P) (L (o234 P)) E)) (N (o7 P) (N (o119 P) (L (o7 P)) E) (N (o7 P) (L (o8 P)) E))) (N (o48 P) (N (o8 P) (N (o110 P) (L (o197 P)) (L (o281 P))) (N (o157 P) (L (o244 P)) E)) (N (o87 P) (N (o132 P) (L (o220 P)) E) (N (o178 P) (L (o7 P)) E)))))) (N (o6 P) (N (o10 P) (N (o7 P) (N (o28 P) (N (o7 P) (N (o90 P) (L (o182 P)) (L (o265 P))) (N (o135 P) (L (o225 P)) E)) (N (o7 P) (N (o8 P) (L (o203 P)) (L (o287 P))) (N (o161 P) (L (o247 P)) E))) (N (o8 P) (N (o63 P) (N (o103 P) (L (o191 P)) (L (o274 P))) (N (o7 P) (L (o7 P)) E)) (N (o81 P) (N (o125 P) (L (o215 P)) E) (N (o171 P) (L (o7 P)) E)))) (N (o23 P) (N (o7 P) (N (o56 P) (N (o98 P) (L (o187 P)) (L (o7 P))) (N (o143 P) (L (o233 P)) E)) (N (o8 P) (N (o118 P) (L (o208 P)) E) (N (o166 P) (L (o252 P)) E))) (N (o46 P) (N (o68 P) (N (o7 P) (L (o7 P)) (L (o279 P))) (N (o155 P) (L (o242 P)) E)) (N (o7 P) (N (o130 P) (L (o7 P)) E) (N (o177 P) (L (o8 P)) E))))) (N (o12 P) (N (o20 P) (N (o32 P) (N (o7 P) (N (o94 P) (L (o184 P)) (L (o268 P))) (N (o139 P) (L (o229 P)) E)) (N (o74 P) (N (o116 P) (L (o8 P)) E) (N (o8 P) (L (o249 P)) E))) (N (o42 P) (N (o65 P) (N (o7 P) (L (o194 P)) (L (o8 P))) (N (o151 P) (L (o7 P)) E)) (N (o84 P) (N (o7 P) (L (o7 P)) E) (N (o173 P) (L (o258 P)) E)))) (N (o8 P) (N (o37 P) (N (o21 P) (N (o100 P) (L (o189 P)) (L (o7 P))) (N (o7 P) (L (o236 P)) E)) (N (o79 P) (N (o121 P) (L (o212 P)) E) (N (o168 P) (L (o7 P)) E))) (N (o50 P) (N (o7 P) (N (o111 P) (L (o199 P)) (L (o283 P))) (N (o159 P) (L (o8 P)) E)) (N (o7 P) (N (o8 P) (L (o221 P)) E) (N (o180 P) (L (o263 P)) E))))))))
noncomputable def tr8 (P:Params):BT:=(N (o0 P) (N (o1 P) (N (o288 P) (N (o7 P) (N (o7 P) (N (o26 P) (N (o7 P) (N (o8 P) (L (o7 P)) (L (o264 P))) (N (o133 P) (L (o222 P)) (L (o7 P)))) (N (o70 P) (N (o112 P) (L (o200 P)) (L (o284 P))) (N (o160 P) (L (o245 P)) (L (o323 P))))) (N (o38 P) (N (o61 P) (N (o7 P) (L (o190 P)) (L (o8 P))) (N (o147 P) (L (o7 P)) (L (o314 P)))) (N (o80 P) (N (o122 P) (L (o7 P)) (L (o296 P))) (N (o7 P) (L (o254 P)) E)))) (N (o21 P) (N (o33 P) (N (o8 P) (N (o95 P) (L (o7 P)) (L (o7 P))) (N (o140 P) (L (o230 P)) (L (o8 P)))) (N (o75 P) (N (o117 P) (L (o206 P)) (L (o291 P))) (N (o164 P) (L (o7 P)) (L (o331 P))))) (N (o43 P) (N (o7 P) (N (o107 P) (L (o7 P)) (L (o277 P))) (N (o152 P) (L (o8 P)) (L (o7 P)))) (N (o7 P) (N (o21 P) (L (o217 P)) (L (o301 P))) (N (o174 P) (L (o259 P)) E))))) (N (o7 P) (N (o17 P) (N (o29 P) (N (o52 P) (N (o91 P) (L (o183 P)) (L (o7 P))) (N (o136 P) (L (o226 P)) (L (o307 P)))) (N (o8 P) (N (o114 P) (L (o204 P)) (L (o7 P))) (N (o162 P) (L (o248 P)) (L (o327 P))))) (N (o40 P) (N (o64 P) (N (o7 P) (L (o7 P)) (L (o275 P))) (N (o8 P) (L (o238 P)) (L (o317 P)))) (N (o7 P) (N (o126 P) (L (o7 P)) (L (o298 P))) (N (o7 P) (L (o8 P)) E)))) (N (o24 P) (N (o21 P) (N (o57 P) (N (o99 P) (L (o7 P)) (L (o270 P))) (N (o7 P) (L (o7 P)) (L (o312 P)))) (N (o77 P) (N (o7 P) (L (o209 P)) (L (o8 P))) (N (o167 P) (L (o7 P)) E))) (N (o47 P) (N (o7 P) (N (o8 P) (L (o196 P)) (L (o280 P))) (N (o156 P) (L (o243 P)) (L (o7 P)))) (N (o86 P) (N (o131 P) (L (o8 P)) (L (o7 P))) (N (o7 P) (L (o261 P)) E)))))) (N (o5 P) (N (o9 P) (N (o16 P) (N (o27 P) (N (o51 P) (N (o7 P) (L (o181 P)) (L (o8 P))) (N (o134 P) (L (o224 P)) (L (o306 P)))) (N (o72 P) (N (o7 P) (L (o202 P)) (L (o286 P))) (N (o8 P) (L (o246 P)) (L (o325 P))))) (N (o7 P) (N (o62 P) (N (o102 P) (L (o8 P)) (L (o7 P))) (N (o149 P) (L (o237 P)) (L (o315 P)))) (N (o8 P) (N (o124 P) (L (o214 P)) (L (o7 P))) (N (o170 P) (L (o256 P)) E)))) (N (o7 P) (N (o35 P) (N (o7 P) (N (o97 P) (L (o186 P)) (L (o269 P))) (N (o142 P) (L (o21 P)) (L (o7 P)))) (N (o7 P) (N (o8 P) (L (o207 P)) (L (o293 P))) (N (o165 P) (L (o251 P)) E))) (N (o45 P) (N (o67 P) (N (o109 P) (L (o195 P)) (L (o278 P))) (N (o154 P) (L (o7 P)) (L (o320 P)))) (N (o85 P) (N (o7 P) (L (o219 P)) (L (o8 P))) (N (o21 P) (L (o7 P)) E))))) (N (o11 P) (N (o19 P) (N (o31 P) (N (o54 P) (N (o93 P) (L (o8 P)) (L (o267 P))) (N (o138 P) (L (o228 P)) (L (o309 P)))) (N (o7 P) (N (o115 P) (L (o7 P)) (L (o290 P))) (N (o7 P) (L (o8 P)) (L (o329 P))))) (N (o41 P) (N (o8 P) (N (o106 P) (L (o193 P)) (L (o7 P))) (N (o7 P) (L (o240 P)) (L (o8 P)))) (N (o83 P) (N (o128 P) (L (o216 P)) (L (o299 P))) (N (o172 P) (L (o7 P)) E)))) (N (o7 P) (N (o7 P) (N (o7 P) (N (o8 P) (L (o188 P)) (L (o272 P))) (N (o146 P) (L (o235 P)) (L (o7 P)))) (N (o78 P) (N (o120 P) (L (o21 P)) (L (o7 P))) (N (o8 P) (L (o253 P)) E))) (N (o49 P) (N (o69 P) (N (o7 P) (L (o198 P)) (L (o282 P))) (N (o158 P) (L (o7 P)) (L (o322 P)))) (N (o88 P) (N (o7 P) (L (o7 P)) (L (o304 P))) (N (o179 P) (L (o262 P)) E))))))) (N (o13 P) (N (o4 P) (N (o8 P) (N (o8 P) (N (o7 P) (N (o8 P) (N (o89 P) (L (o8 P)) (L (o7 P))) (N (o7 P) (L (o223 P)) (L (o8 P)))) (N (o71 P) (N (o113 P) (L (o201 P)) (L (o285 P))) (N (o7 P) (L (o7 P)) (L (o324 P))))) (N (o39 P) (N (o7 P) (N (o101 P) (L (o7 P)) (L (o273 P))) (N (o148 P) (L (o8 P)) (L (o7 P)))) (N (o7 P) (N (o123 P) (L (o213 P)) (L (o297 P))) (N (o169 P) (L (o255 P)) E)))) (N (o22 P) (N (o34 P) (N (o55 P) (N (o96 P) (L (o185 P)) (L (o8 P))) (N (o141 P) (L (o7 P)) (L (o310 P)))) (N (o76 P) (N (o7 P) (L (o7 P)) (L (o292 P))) (N (o7 P) (L (o250 P)) (L (o332 P))))) (N (o44 P) (N (o66 P) (N (o108 P) (L (o8 P)) (L (o7 P))) (N (o153 P) (L (o241 P)) (L (o319 P)))) (N (o8 P) (N (o129 P) (L (o218 P)) (L (o7 P))) (N (o7 P) (L (o260 P)) E))))) (N (o289 P) (N (o18 P) (N (o30 P) (N (o53 P) (N (o92 P) (L (o7 P)) (L (o266 P))) (N (o137 P) (L (o227 P)) (L (o308 P)))) (N (o73 P) (N (o7 P) (L (o205 P)) (L (o21 P))) (N (o163 P) (L (o7 P)) (L (o328 P))))) (N (o7 P) (N (o7 P) (N (o21 P) (L (o192 P)) (L (o276 P))) (N (o150 P) (L (o239 P)) (L (o7 P)))) (N (o82 P) (N (o127 P) (L (o8 P)) (L (o7 P))) (N (o8 P) (L (o257 P)) E)))) (N (o25 P) (N (o36 P) (N (o58 P) (N (o7 P) (L (o8 P)) (L (o271 P))) (N (o21 P) (L (o234 P)) (L (o313 P)))) (N (o7 P) (N (o119 P) (L (o7 P)) (L (o294 P))) (N (o7 P) (L (o8 P)) E))) (N (o48 P) (N (o8 P) (N (o110 P) (L (o197 P)) (L (o281 P))) (N (o157 P) (L (o244 P)) (L (o8 P)))) (N (o87 P) (N (o132 P) (L (o220 P)) (L (o303 P))) (N (o178 P) (L (o7 P)) E)))))) (N (o6 P) (N (o10 P) (N (o7 P) (N (o28 P) (N (o7 P) (N (o90 P) (L (o182 P)) (L (o265 P))) (N (o135 P) (L (o225 P)) (L (o7 P)))) (N (o7 P) (N (o8 P) (L (o203 P)) (L (o287 P))) (N (o161 P) (L (o247 P)) (L (o326 P))))) (N (o8 P) (N (o63 P) (N (o103 P) (L (o191 P)) (L (o274 P))) (N (o7 P) (L (o7 P)) (L (o316 P)))) (N (o81 P) (N (o125 P) (L (o215 P)) (L (o8 P))) (N (o171 P) (L (o7 P)) E)))) (N (o23 P) (N (o7 P) (N (o56 P) (N (o98 P) (L (o187 P)) (L (o7 P))) (N (o143 P) (L (o233 P)) (L (o311 P)))) (N (o8 P) (N (o118 P) (L (o208 P)) (L (o7 P))) (N (o166 P) (L (o252 P)) E))) (N (o46 P) (N (o68 P) (N (o7 P) (L (o7 P)) (L (o279 P))) (N (o155 P) (L (o242 P)) (L (o321 P)))) (N (o7 P) (N (o130 P) (L (o7 P)) (L (o302 P))) (N (o177 P) (L (o8 P)) E))))) (N (o12 P) (N (o20 P) (N (o32 P) (N (o7 P) (N (o94 P) (L (o184 P)) (L (o268 P))) (N (o139 P) (L (o229 P)) (L (o7 P)))) (N (o74 P) (N (o116 P) (L (o8 P)) (L (o7 P))) (N (o8 P) (L (o249 P)) (L (o330 P))))) (N (o42 P) (N (o65 P) (N (o7 P) (L (o194 P)) (L (o8 P))) (N (o151 P) (L (o7 P)) (L (o318 P)))) (N (o84 P) (N (o7 P) (L (o7 P)) (L (o300 P))) (N (o173 P) (L (o258 P)) E)))) (N (o8 P) (N (o37 P) (N (o21 P) (N (o100 P) (L (o189 P)) (L (o7 P))) (N (o7 P) (L (o236 P)) (L (o8 P)))) (N (o79 P) (N (o121 P) (L (o212 P)) (L (o295 P))) (N (o168 P) (L (o7 P)) E))) (N (o50 P) (N (o7 P) (N (o111 P) (L (o199 P)) (L (o283 P))) (N (o159 P) (L (o8 P)) (L (o7 P)))) (N (o7 P) (N (o8 P) (L (o221 P)) (L (o305 P))) (N (o180 P) (L (o263 P)) E))))))))
noncomputable def tr9 (P:Params):BT:=(N (o0 P) (N (o1 P) (N (o333 P) (N (o7 P) (N (o7 P) (N (o26 P) (N (o7 P) (N (o8 P) (N (o7 P) (L (o8 P)) E) (L (o264 P))) (N (o133 P) (L (o222 P)) (L (o7 P)))) (N (o70 P) (N (o112 P) (L (o200 P)) (L (o284 P))) (N (o160 P) (L (o245 P)) (L (o323 P))))) (N (o38 P) (N (o61 P) (N (o7 P) (L (o190 P)) (L (o8 P))) (N (o147 P) (L (o7 P)) (L (o314 P)))) (N (o80 P) (N (o122 P) (L (o7 P)) (L (o296 P))) (N (o7 P) (L (o254 P)) (L (o338 P)))))) (N (o21 P) (N (o33 P) (N (o8 P) (N (o95 P) (N (o7 P) (L (o352 P)) E) (L (o7 P))) (N (o140 P) (L (o230 P)) (L (o8 P)))) (N (o75 P) (N (o117 P) (L (o206 P)) (L (o291 P))) (N (o164 P) (L (o7 P)) (L (o331 P))))) (N (o43 P) (N (o7 P) (N (o107 P) (L (o7 P)) (L (o277 P))) (N (o152 P) (L (o8 P)) (L (o7 P)))) (N (o7 P) (N (o21 P) (L (o217 P)) (L (o301 P))) (N (o174 P) (L (o259 P)) (L (o7 P))))))) (N (o7 P) (N (o17 P) (N (o29 P) (N (o52 P) (N (o91 P) (N (o183 P) (L (o349 P)) E) (L (o7 P))) (N (o136 P) (L (o226 P)) (L (o307 P)))) (N (o8 P) (N (o114 P) (L (o204 P)) (L (o7 P))) (N (o162 P) (L (o248 P)) (L (o327 P))))) (N (o40 P) (N (o64 P) (N (o7 P) (L (o7 P)) (L (o275 P))) (N (o8 P) (L (o238 P)) (L (o317 P)))) (N (o7 P) (N (o126 P) (L (o7 P)) (L (o298 P))) (N (o7 P) (L (o8 P)) (L (o7 P)))))) (N (o24 P) (N (o21 P) (N (o57 P) (N (o99 P) (N (o7 P) (L (o356 P)) E) (L (o270 P))) (N (o7 P) (L (o7 P)) (L (o312 P)))) (N (o77 P) (N (o7 P) (L (o209 P)) (L (o8 P))) (N (o167 P) (L (o7 P)) (L (o335 P))))) (N (o47 P) (N (o7 P) (N (o8 P) (L (o196 P)) (L (o280 P))) (N (o156 P) (L (o243 P)) (L (o7 P)))) (N (o86 P) (N (o131 P) (L (o8 P)) (L (o7 P))) (N (o7 P) (L (o261 P)) (L (o344 P)))))))) (N (o5 P) (N (o9 P) (N (o16 P) (N (o27 P) (N (o51 P) (N (o7 P) (N (o181 P) (L (o7 P)) E) (L (o8 P))) (N (o134 P) (L (o224 P)) (L (o306 P)))) (N (o72 P) (N (o7 P) (L (o202 P)) (L (o286 P))) (N (o8 P) (L (o246 P)) (L (o325 P))))) (N (o7 P) (N (o62 P) (N (o102 P) (L (o8 P)) (L (o7 P))) (N (o149 P) (L (o237 P)) (L (o315 P)))) (N (o8 P) (N (o124 P) (L (o214 P)) (L (o7 P))) (N (o170 P) (L (o256 P)) (L (o8 P)))))) (N (o7 P) (N (o35 P) (N (o7 P) (N (o97 P) (N (o186 P) (L (o354 P)) E) (L (o269 P))) (N (o142 P) (L (o21 P)) (L (o7 P)))) (N (o7 P) (N (o8 P) (L (o207 P)) (L (o293 P))) (N (o165 P) (L (o251 P)) (L (o7 P))))) (N (o45 P) (N (o67 P) (N (o109 P) (L (o195 P)) (L (o278 P))) (N (o154 P) (L (o7 P)) (L (o320 P)))) (N (o85 P) (N (o7 P) (L (o219 P)) (L (o8 P))) (N (o21 P) (L (o7 P)) (L (o343 P))))))) (N (o11 P) (N (o19 P) (N (o31 P) (N (o54 P) (N (o93 P) (N (o8 P) (L (o7 P)) E) (L (o267 P))) (N (o138 P) (L (o228 P)) (L (o309 P)))) (N (o7 P) (N (o115 P) (L (o7 P)) (L (o290 P))) (N (o7 P) (L (o8 P)) (L (o329 P))))) (N (o41 P) (N (o8 P) (N (o106 P) (L (o193 P)) (L (o7 P))) (N (o7 P) (L (o240 P)) (L (o8 P)))) (N (o83 P) (N (o128 P) (L (o216 P)) (L (o299 P))) (N (o172 P) (L (o7 P)) (L (o341 P)))))) (N (o7 P) (N (o7 P) (N (o7 P) (N (o8 P) (L (o188 P)) (L (o272 P))) (N (o146 P) (L (o235 P)) (L (o7 P)))) (N (o78 P) (N (o120 P) (L (o21 P)) (L (o7 P))) (N (o8 P) (L (o253 P)) (L (o336 P))))) (N (o49 P) (N (o69 P) (N (o7 P) (L (o198 P)) (L (o282 P))) (N (o158 P) (L (o7 P)) (L (o322 P)))) (N (o88 P) (N (o7 P) (L (o7 P)) (L (o304 P))) (N (o179 P) (L (o262 P)) (L (o346 P))))))))) (N (o13 P) (N (o4 P) (N (o8 P) (N (o8 P) (N (o7 P) (N (o8 P) (N (o89 P) (N (o8 P) (L (o347 P)) E) (L (o7 P))) (N (o7 P) (L (o223 P)) (L (o8 P)))) (N (o71 P) (N (o113 P) (L (o201 P)) (L (o285 P))) (N (o7 P) (L (o7 P)) (L (o324 P))))) (N (o39 P) (N (o7 P) (N (o101 P) (L (o7 P)) (L (o273 P))) (N (o148 P) (L (o8 P)) (L (o7 P)))) (N (o7 P) (N (o123 P) (L (o213 P)) (L (o297 P))) (N (o169 P) (L (o255 P)) (L (o7 P)))))) (N (o22 P) (N (o34 P) (N (o55 P) (N (o96 P) (N (o185 P) (L (o353 P)) E) (L (o8 P))) (N (o141 P) (L (o7 P)) (L (o310 P)))) (N (o76 P) (N (o7 P) (L (o7 P)) (L (o292 P))) (N (o7 P) (L (o250 P)) (L (o332 P))))) (N (o44 P) (N (o66 P) (N (o108 P) (L (o8 P)) (L (o7 P))) (N (o153 P) (L (o241 P)) (L (o319 P)))) (N (o8 P) (N (o129 P) (L (o218 P)) (L (o7 P))) (N (o7 P) (L (o260 P)) (L (o8 P))))))) (N (o334 P) (N (o18 P) (N (o30 P) (N (o53 P) (N (o92 P) (N (o7 P) (L (o350 P)) E) (L (o266 P))) (N (o137 P) (L (o227 P)) (L (o308 P)))) (N (o73 P) (N (o7 P) (L (o205 P)) (L (o21 P))) (N (o163 P) (L (o7 P)) (L (o328 P))))) (N (o7 P) (N (o7 P) (N (o21 P) (L (o192 P)) (L (o276 P))) (N (o150 P) (L (o239 P)) (L (o7 P)))) (N (o82 P) (N (o127 P) (L (o8 P)) (L (o7 P))) (N (o8 P) (L (o257 P)) (L (o340 P)))))) (N (o25 P) (N (o36 P) (N (o58 P) (N (o7 P) (L (o8 P)) (L (o271 P))) (N (o21 P) (L (o234 P)) (L (o313 P)))) (N (o7 P) (N (o119 P) (L (o7 P)) (L (o294 P))) (N (o7 P) (L (o8 P)) (L (o7 P))))) (N (o48 P) (N (o8 P) (N (o110 P) (L (o197 P)) (L (o281 P))) (N (o157 P) (L (o244 P)) (L (o8 P)))) (N (o87 P) (N (o132 P) (L (o220 P)) (L (o303 P))) (N (o178 P) (L (o7 P)) (L (o345 P)))))))) (N (o6 P) (N (o10 P) (N (o7 P) (N (o28 P) (N (o7 P) (N (o90 P) (N (o182 P) (L (o348 P)) E) (L (o265 P))) (N (o135 P) (L (o225 P)) (L (o7 P)))) (N (o7 P) (N (o8 P) (L (o203 P)) (L (o287 P))) (N (o161 P) (L (o247 P)) (L (o326 P))))) (N (o8 P) (N (o63 P) (N (o103 P) (L (o191 P)) (L (o274 P))) (N (o7 P) (L (o7 P)) (L (o316 P)))) (N (o81 P) (N (o125 P) (L (o215 P)) (L (o8 P))) (N (o171 P) (L (o7 P)) (L (o339 P)))))) (N (o23 P) (N (o7 P) (N (o56 P) (N (o98 P) (N (o187 P) (L (o355 P)) E) (L (o7 P))) (N (o143 P) (L (o233 P)) (L (o311 P)))) (N (o8 P) (N (o118 P) (L (o208 P)) (L (o7 P))) (N (o166 P) (L (o252 P)) (L (o21 P))))) (N (o46 P) (N (o68 P) (N (o7 P) (L (o7 P)) (L (o279 P))) (N (o155 P) (L (o242 P)) (L (o321 P)))) (N (o7 P) (N (o130 P) (L (o7 P)) (L (o302 P))) (N (o177 P) (L (o8 P)) (L (o7 P))))))) (N (o12 P) (N (o20 P) (N (o32 P) (N (o7 P) (N (o94 P) (N (o184 P) (L (o351 P)) E) (L (o268 P))) (N (o139 P) (L (o229 P)) (L (o7 P)))) (N (o74 P) (N (o116 P) (L (o8 P)) (L (o7 P))) (N (o8 P) (L (o249 P)) (L (o330 P))))) (N (o42 P) (N (o65 P) (N (o7 P) (L (o194 P)) (L (o8 P))) (N (o151 P) (L (o7 P)) (L (o318 P)))) (N (o84 P) (N (o7 P) (L (o7 P)) (L (o300 P))) (N (o173 P) (L (o258 P)) (L (o342 P)))))) (N (o8 P) (N (o37 P) (N (o21 P) (N (o100 P) (L (o189 P)) (L (o7 P))) (N (o7 P) (L (o236 P)) (L (o8 P)))) (N (o79 P) (N (o121 P) (L (o212 P)) (L (o295 P))) (N (o168 P) (L (o7 P)) (L (o337 P))))) (N (o50 P) (N (o7 P) (N (o111 P) (L (o199 P)) (L (o283 P))) (N (o159 P) (L (o8 P)) (L (o7 P)))) (N (o7 P) (N (o8 P) (L (o221 P)) (L (o305 P))) (N (o180 P) (L (o263 P)) (L (o7 P))))))))))
noncomputable def tr10 (P:Params):BT:=(N (o0 P) (N (o1 P) (N (o357 P) (N (o7 P) (N (o7 P) (N (o26 P) (N (o7 P) (N (o8 P) (N (o7 P) (L (o8 P)) E) (L (o264 P))) (N (o133 P) (N (o222 P) (L (o8 P)) E) (L (o7 P)))) (N (o70 P) (N (o112 P) (N (o200 P) (L (o371 P)) E) (L (o284 P))) (N (o160 P) (N (o245 P) (L (o408 P)) E) (L (o323 P))))) (N (o38 P) (N (o61 P) (N (o7 P) (N (o190 P) (L (o7 P)) E) (L (o8 P))) (N (o147 P) (N (o7 P) (L (o7 P)) E) (L (o314 P)))) (N (o80 P) (N (o122 P) (N (o7 P) (L (o381 P)) E) (L (o296 P))) (N (o7 P) (N (o254 P) (L (o418 P)) E) (L (o338 P)))))) (N (o21 P) (N (o33 P) (N (o8 P) (N (o95 P) (N (o7 P) (L (o359 P)) E) (L (o7 P))) (N (o140 P) (N (o230 P) (L (o394 P)) E) (L (o8 P)))) (N (o75 P) (N (o117 P) (N (o206 P) (L (o376 P)) E) (L (o291 P))) (N (o164 P) (N (o7 P) (L (o413 P)) E) (L (o331 P))))) (N (o43 P) (N (o7 P) (N (o107 P) (N (o7 P) (L (o7 P)) E) (L (o277 P))) (N (o152 P) (N (o8 P) (L (o403 P)) E) (L (o7 P)))) (N (o7 P) (N (o21 P) (N (o217 P) (L (o7 P)) E) (L (o301 P))) (N (o174 P) (L (o259 P)) (L (o7 P))))))) (N (o7 P) (N (o17 P) (N (o29 P) (N (o52 P) (N (o91 P) (N (o183 P) (L (o349 P)) E) (L (o7 P))) (N (o136 P) (N (o226 P) (L (o392 P)) E) (L (o307 P)))) (N (o8 P) (N (o114 P) (N (o204 P) (L (o8 P)) E) (L (o7 P))) (N (o162 P) (N (o248 P) (L (o410 P)) E) (L (o327 P))))) (N (o40 P) (N (o64 P) (N (o7 P) (N (o7 P) (L (o365 P)) E) (L (o275 P))) (N (o8 P) (N (o238 P) (L (o7 P)) E) (L (o317 P)))) (N (o7 P) (N (o126 P) (N (o7 P) (L (o7 P)) E) (L (o298 P))) (N (o7 P) (N (o8 P) (L (o422 P)) E) (L (o7 P)))))) (N (o24 P) (N (o21 P) (N (o57 P) (N (o99 P) (N (o7 P) (L (o356 P)) E) (L (o270 P))) (N (o7 P) (N (o7 P) (L (o397 P)) E) (L (o312 P)))) (N (o77 P) (N (o7 P) (N (o209 P) (L (o378 P)) E) (L (o8 P))) (N (o167 P) (N (o7 P) (L (o7 P)) E) (L (o335 P))))) (N (o47 P) (N (o7 P) (N (o8 P) (N (o196 P) (L (o7 P)) E) (L (o280 P))) (N (o156 P) (N (o243 P) (L (o8 P)) E) (L (o7 P)))) (N (o86 P) (N (o131 P) (N (o8 P) (L (o387 P)) E) (L (o7 P))) (N (o7 P) (L (o261 P)) (L (o344 P)))))))) (N (o5 P) (N (o9 P) (N (o16 P) (N (o27 P) (N (o51 P) (N (o7 P) (N (o181 P) (L (o7 P)) E) (L (o8 P))) (N (o134 P) (N (o224 P) (L (o7 P)) E) (L (o306 P)))) (N (o72 P) (N (o7 P) (N (o202 P) (L (o373 P)) E) (L (o286 P))) (N (o8 P) (N (o246 P) (L (o7 P)) E) (L (o325 P))))) (N (o7 P) (N (o62 P) (N (o102 P) (N (o8 P) (L (o363 P)) E) (L (o7 P))) (N (o149 P) (N (o237 P) (L (o400 P)) E) (L (o315 P)))) (N (o8 P) (N (o124 P) (N (o214 P) (L (o8 P)) E) (L (o7 P))) (N (o170 P) (N (o256 P) (L (o420 P)) E) (L (o8 P)))))) (N (o7 P) (N (o35 P) (N (o7 P) (N (o97 P) (N (o186 P) (L (o354 P)) E) (L (o269 P))) (N (o142 P) (N (o21 P) (L (o395 P)) E) (L (o7 P)))) (N (o7 P) (N (o8 P) (N (o207 P) (L (o7 P)) E) (L (o293 P))) (N (o165 P) (N (o251 P) (L (o8 P)) E) (L (o7 P))))) (N (o45 P) (N (o67 P) (N (o109 P) (N (o195 P) (L (o368 P)) E) (L (o278 P))) (N (o154 P) (N (o7 P) (L (o405 P)) E) (L (o320 P)))) (N (o85 P) (N (o7 P) (N (o219 P) (L (o386 P)) E) (L (o8 P))) (N (o21 P) (L (o7 P)) (L (o343 P))))))) (N (o11 P) (N (o19 P) (N (o31 P) (N (o54 P) (N (o93 P) (N (o8 P) (L (o7 P)) E) (L (o267 P))) (N (o138 P) (N (o228 P) (L (o7 P)) E) (L (o309 P)))) (N (o7 P) (N (o115 P) (N (o7 P) (L (o7 P)) E) (L (o290 P))) (N (o7 P) (N (o8 P) (L (o411 P)) E) (L (o329 P))))) (N (o41 P) (N (o8 P) (N (o106 P) (N (o193 P) (L (o8 P)) E) (L (o7 P))) (N (o7 P) (N (o240 P) (L (o402 P)) E) (L (o8 P)))) (N (o83 P) (N (o128 P) (N (o216 P) (L (o384 P)) E) (L (o299 P))) (N (o172 P) (L (o7 P)) (L (o341 P)))))) (N (o7 P) (N (o7 P) (N (o7 P) (N (o8 P) (N (o188 P) (L (o21 P)) E) (L (o272 P))) (N (o146 P) (N (o235 P) (L (o8 P)) E) (L (o7 P)))) (N (o78 P) (N (o120 P) (N (o21 P) (L (o379 P)) E) (L (o7 P))) (N (o8 P) (N (o253 P) (L (o416 P)) E) (L (o336 P))))) (N (o49 P) (N (o69 P) (N (o7 P) (N (o198 P) (L (o370 P)) E) (L (o282 P))) (N (o158 P) (N (o7 P) (L (o7 P)) E) (L (o322 P)))) (N (o88 P) (N (o7 P) (N (o7 P) (L (o389 P)) E) (L (o304 P))) (N (o179 P) (L (o262 P)) (L (o346 P))))))))) (N (o13 P) (N (o4 P) (N (o8 P) (N (o8 P) (N (o7 P) (N (o8 P) (N (o89 P) (N (o8 P) (L (o347 P)) E) (L (o7 P))) (N (o7 P) (N (o223 P) (L (o390 P)) E) (L (o8 P)))) (N (o71 P) (N (o113 P) (N (o201 P) (L (o372 P)) E) (L (o285 P))) (N (o7 P) (N (o7 P) (L (o409 P)) E) (L (o324 P))))) (N (o39 P) (N (o7 P) (N (o101 P) (N (o7 P) (L (o362 P)) E) (L (o273 P))) (N (o148 P) (N (o8 P) (L (o399 P)) E) (L (o7 P)))) (N (o7 P) (N (o123 P) (N (o213 P) (L (o7 P)) E) (L (o297 P))) (N (o169 P) (N (o255 P) (L (o419 P)) E) (L (o7 P)))))) (N (o22 P) (N (o34 P) (N (o55 P) (N (o96 P) (N (o185 P) (L (o353 P)) E) (L (o8 P))) (N (o141 P) (N (o7 P) (L (o7 P)) E) (L (o310 P)))) (N (o76 P) (N (o7 P) (N (o7 P) (L (o377 P)) E) (L (o292 P))) (N (o7 P) (N (o250 P) (L (o7 P)) E) (L (o332 P))))) (N (o44 P) (N (o66 P) (N (o108 P) (N (o8 P) (L (o367 P)) E) (L (o7 P))) (N (o153 P) (N (o241 P) (L (o404 P)) E) (L (o319 P)))) (N (o8 P) (N (o129 P) (N (o218 P) (L (o8 P)) E) (L (o7 P))) (N (o7 P) (L (o260 P)) (L (o8 P))))))) (N (o358 P) (N (o18 P) (N (o30 P) (N (o53 P) (N (o92 P) (N (o7 P) (L (o350 P)) E) (L (o266 P))) (N (o137 P) (N (o227 P) (L (o393 P)) E) (L (o308 P)))) (N (o73 P) (N (o7 P) (N (o205 P) (L (o374 P)) E) (L (o21 P))) (N (o163 P) (N (o7 P) (L (o7 P)) E) (L (o328 P))))) (N (o7 P) (N (o7 P) (N (o21 P) (N (o192 P) (L (o7 P)) E) (L (o276 P))) (N (o150 P) (N (o239 P) (L (o8 P)) E) (L (o7 P)))) (N (o82 P) (N (o127 P) (N (o8 P) (L (o383 P)) E) (L (o7 P))) (N (o8 P) (L (o257 P)) (L (o340 P)))))) (N (o25 P) (N (o36 P) (N (o58 P) (N (o7 P) (N (o8 P) (L (o360 P)) E) (L (o271 P))) (N (o21 P) (N (o234 P) (L (o7 P)) E) (L (o313 P)))) (N (o7 P) (N (o119 P) (N (o7 P) (L (o7 P)) E) (L (o294 P))) (N (o7 P) (N (o8 P) (L (o415 P)) E) (L (o7 P))))) (N (o48 P) (N (o8 P) (N (o110 P) (N (o197 P) (L (o8 P)) E) (L (o281 P))) (N (o157 P) (N (o244 P) (L (o406 P)) E) (L (o8 P)))) (N (o87 P) (N (o132 P) (N (o220 P) (L (o388 P)) E) (L (o303 P))) (N (o178 P) (L (o7 P)) (L (o345 P)))))))) (N (o6 P) (N (o10 P) (N (o7 P) (N (o28 P) (N (o7 P) (N (o90 P) (N (o182 P) (L (o348 P)) E) (L (o265 P))) (N (o135 P) (N (o225 P) (L (o391 P)) E) (L (o7 P)))) (N (o7 P) (N (o8 P) (N (o203 P) (L (o7 P)) E) (L (o287 P))) (N (o161 P) (N (o247 P) (L (o8 P)) E) (L (o326 P))))) (N (o8 P) (N (o63 P) (N (o103 P) (N (o191 P) (L (o364 P)) E) (L (o274 P))) (N (o7 P) (N (o7 P) (L (o401 P)) E) (L (o316 P)))) (N (o81 P) (N (o125 P) (N (o215 P) (L (o382 P)) E) (L (o8 P))) (N (o171 P) (N (o7 P) (L (o421 P)) E) (L (o339 P)))))) (N (o23 P) (N (o7 P) (N (o56 P) (N (o98 P) (N (o187 P) (L (o355 P)) E) (L (o7 P))) (N (o143 P) (N (o233 P) (L (o396 P)) E) (L (o311 P)))) (N (o8 P) (N (o118 P) (N (o208 P) (L (o8 P)) E) (L (o7 P))) (N (o166 P) (N (o252 P) (L (o414 P)) E) (L (o21 P))))) (N (o46 P) (N (o68 P) (N (o7 P) (N (o7 P) (L (o369 P)) E) (L (o279 P))) (N (o155 P) (N (o242 P) (L (o7 P)) E) (L (o321 P)))) (N (o7 P) (N (o130 P) (N (o7 P) (L (o7 P)) E) (L (o302 P))) (N (o177 P) (L (o8 P)) (L (o7 P))))))) (N (o12 P) (N (o20 P) (N (o32 P) (N (o7 P) (N (o94 P) (N (o184 P) (L (o351 P)) E) (L (o268 P))) (N (o139 P) (N (o229 P) (L (o8 P)) E) (L (o7 P)))) (N (o74 P) (N (o116 P) (N (o8 P) (L (o375 P)) E) (L (o7 P))) (N (o8 P) (N (o249 P) (L (o412 P)) E) (L (o330 P))))) (N (o42 P) (N (o65 P) (N (o7 P) (N (o194 P) (L (o366 P)) E) (L (o8 P))) (N (o151 P) (N (o7 P) (L (o7 P)) E) (L (o318 P)))) (N (o84 P) (N (o7 P) (N (o7 P) (L (o385 P)) E) (L (o300 P))) (N (o173 P) (L (o258 P)) (L (o342 P)))))) (N (o8 P) (N (o37 P) (N (o21 P) (N (o100 P) (N (o189 P) (L (o361 P)) E) (L (o7 P))) (N (o7 P) (N (o236 P) (L (o398 P)) E) (L (o8 P)))) (N (o79 P) (N (o121 P) (N (o212 P) (L (o380 P)) E) (L (o295 P))) (N (o168 P) (N (o7 P) (L (o417 P)) E) (L (o337 P))))) (N (o50 P) (N (o7 P) (N (o111 P) (N (o199 P) (L (o7 P)) E) (L (o283 P))) (N (o159 P) (N (o8 P) (L (o407 P)) E) (L (o7 P)))) (N (o7 P) (N (o8 P) (N (o221 P) (L (o7 P)) E) (L (o305 P))) (N (o180 P) (L (o263 P)) (L (o7 P))))))))))
noncomputable def tr11 (P:Params):BT:=(N (o0 P) (N (o1 P) (N (o423 P) (N (o7 P) (N (o7 P) (N (o26 P) (N (o7 P) (N (o8 P) (N (o7 P) (L (o8 P)) E) (N (o264 P) (L (o430 P)) E)) (N (o133 P) (N (o222 P) (L (o8 P)) E) (N (o7 P) (L (o470 P)) E))) (N (o70 P) (N (o112 P) (N (o200 P) (L (o371 P)) E) (N (o284 P) (L (o8 P)) E)) (N (o160 P) (N (o245 P) (L (o408 P)) E) (L (o323 P))))) (N (o38 P) (N (o61 P) (N (o7 P) (N (o190 P) (L (o7 P)) E) (N (o8 P) (L (o440 P)) E)) (N (o147 P) (N (o7 P) (L (o7 P)) E) (N (o314 P) (L (o7 P)) E))) (N (o80 P) (N (o122 P) (N (o7 P) (L (o381 P)) E) (N (o296 P) (L (o7 P)) E)) (N (o7 P) (N (o254 P) (L (o418 P)) E) (L (o338 P)))))) (N (o21 P) (N (o33 P) (N (o8 P) (N (o95 P) (N (o7 P) (L (o359 P)) E) (N (o7 P) (L (o435 P)) E)) (N (o140 P) (N (o230 P) (L (o394 P)) E) (N (o8 P) (L (o475 P)) E))) (N (o75 P) (N (o117 P) (N (o206 P) (L (o376 P)) E) (N (o291 P) (L (o456 P)) E)) (N (o164 P) (N (o7 P) (L (o413 P)) E) (L (o331 P))))) (N (o43 P) (N (o7 P) (N (o107 P) (N (o7 P) (L (o7 P)) E) (N (o277 P) (L (o445 P)) E)) (N (o152 P) (N (o8 P) (L (o403 P)) E) (N (o7 P) (L (o8 P)) E))) (N (o7 P) (N (o21 P) (N (o217 P) (L (o7 P)) E) (N (o301 P) (L (o465 P)) E)) (N (o174 P) (N (o259 P) (L (o7 P)) E) (L (o7 P))))))) (N (o7 P) (N (o17 P) (N (o29 P) (N (o52 P) (N (o91 P) (N (o183 P) (L (o349 P)) E) (N (o7 P) (L (o8 P)) E)) (N (o136 P) (N (o226 P) (L (o392 P)) E) (N (o307 P) (L (o472 P)) E))) (N (o8 P) (N (o114 P) (N (o204 P) (L (o8 P)) E) (N (o7 P) (L (o454 P)) E)) (N (o162 P) (N (o248 P) (L (o410 P)) E) (L (o327 P))))) (N (o40 P) (N (o64 P) (N (o7 P) (N (o7 P) (L (o365 P)) E) (N (o275 P) (L (o7 P)) E)) (N (o8 P) (N (o238 P) (L (o7 P)) E) (N (o317 P) (L (o481 P)) E))) (N (o7 P) (N (o126 P) (N (o7 P) (L (o7 P)) E) (N (o298 P) (L (o7 P)) E)) (N (o7 P) (N (o8 P) (L (o422 P)) E) (L (o7 P)))))) (N (o24 P) (N (o21 P) (N (o57 P) (N (o99 P) (N (o7 P) (L (o356 P)) E) (N (o270 P) (L (o437 P)) E)) (N (o7 P) (N (o7 P) (L (o397 P)) E) (N (o312 P) (L (o7 P)) E))) (N (o77 P) (N (o7 P) (N (o209 P) (L (o378 P)) E) (N (o8 P) (L (o459 P)) E)) (N (o167 P) (N (o7 P) (L (o7 P)) E) (L (o335 P))))) (N (o47 P) (N (o7 P) (N (o8 P) (N (o196 P) (L (o7 P)) E) (N (o280 P) (L (o449 P)) E)) (N (o156 P) (N (o243 P) (L (o8 P)) E) (N (o7 P) (L (o486 P)) E))) (N (o86 P) (N (o131 P) (N (o8 P) (L (o387 P)) E) (N (o7 P) (L (o8 P)) E)) (N (o7 P) (N (o261 P) (L (o7 P)) E) (L (o344 P)))))))) (N (o5 P) (N (o9 P) (N (o16 P) (N (o27 P) (N (o51 P) (N (o7 P) (N (o181 P) (L (o7 P)) E) (N (o8 P) (L (o432 P)) E)) (N (o134 P) (N (o224 P) (L (o7 P)) E) (N (o306 P) (L (o7 P)) E))) (N (o72 P) (N (o7 P) (N (o202 P) (L (o373 P)) E) (N (o286 P) (L (o7 P)) E)) (N (o8 P) (N (o246 P) (L (o7 P)) E) (L (o325 P))))) (N (o7 P) (N (o62 P) (N (o102 P) (N (o8 P) (L (o363 P)) E) (N (o7 P) (L (o8 P)) E)) (N (o149 P) (N (o237 P) (L (o400 P)) E) (N (o315 P) (L (o480 P)) E))) (N (o8 P) (N (o124 P) (N (o214 P) (L (o8 P)) E) (N (o7 P) (L (o462 P)) E)) (N (o170 P) (N (o256 P) (L (o420 P)) E) (L (o8 P)))))) (N (o7 P) (N (o35 P) (N (o7 P) (N (o97 P) (N (o186 P) (L (o354 P)) E) (N (o269 P) (L (o7 P)) E)) (N (o142 P) (N (o21 P) (L (o395 P)) E) (N (o7 P) (L (o8 P)) E))) (N (o7 P) (N (o8 P) (N (o207 P) (L (o7 P)) E) (N (o293 P) (L (o457 P)) E)) (N (o165 P) (N (o251 P) (L (o8 P)) E) (L (o7 P))))) (N (o45 P) (N (o67 P) (N (o109 P) (N (o195 P) (L (o368 P)) E) (N (o278 P) (L (o447 P)) E)) (N (o154 P) (N (o7 P) (L (o405 P)) E) (N (o320 P) (L (o7 P)) E))) (N (o85 P) (N (o7 P) (N (o219 P) (L (o386 P)) E) (N (o8 P) (L (o467 P)) E)) (N (o21 P) (N (o7 P) (L (o427 P)) E) (L (o343 P))))))) (N (o11 P) (N (o19 P) (N (o31 P) (N (o54 P) (N (o93 P) (N (o8 P) (L (o7 P)) E) (N (o267 P) (L (o7 P)) E)) (N (o138 P) (N (o228 P) (L (o7 P)) E) (N (o309 P) (L (o473 P)) E))) (N (o7 P) (N (o115 P) (N (o7 P) (L (o7 P)) E) (N (o290 P) (L (o7 P)) E)) (N (o7 P) (N (o8 P) (L (o411 P)) E) (L (o329 P))))) (N (o41 P) (N (o8 P) (N (o106 P) (N (o193 P) (L (o8 P)) E) (N (o7 P) (L (o443 P)) E)) (N (o7 P) (N (o240 P) (L (o402 P)) E) (N (o8 P) (L (o483 P)) E))) (N (o83 P) (N (o128 P) (N (o216 P) (L (o384 P)) E) (N (o299 P) (L (o464 P)) E)) (N (o172 P) (N (o7 P) (L (o21 P)) E) (L (o341 P)))))) (N (o7 P) (N (o7 P) (N (o7 P) (N (o8 P) (N (o188 P) (L (o21 P)) E) (N (o272 P) (L (o438 P)) E)) (N (o146 P) (N (o235 P) (L (o8 P)) E) (N (o7 P) (L (o478 P)) E))) (N (o78 P) (N (o120 P) (N (o21 P) (L (o379 P)) E) (N (o7 P) (L (o8 P)) E)) (N (o8 P) (N (o253 P) (L (o416 P)) E) (L (o336 P))))) (N (o49 P) (N (o69 P) (N (o7 P) (N (o198 P) (L (o370 P)) E) (N (o282 P) (L (o451 P)) E)) (N (o158 P) (N (o7 P) (L (o7 P)) E) (L (o322 P)))) (N (o88 P) (N (o7 P) (N (o7 P) (L (o389 P)) E) (N (o304 P) (L (o7 P)) E)) (N (o179 P) (N (o262 P) (L (o429 P)) E) (L (o346 P))))))))) (N (o13 P) (N (o4 P) (N (o8 P) (N (o8 P) (N (o7 P) (N (o8 P) (N (o89 P) (N (o8 P) (L (o347 P)) E) (N (o7 P) (L (o431 P)) E)) (N (o7 P) (N (o223 P) (L (o390 P)) E) (N (o8 P) (L (o471 P)) E))) (N (o71 P) (N (o113 P) (N (o201 P) (L (o372 P)) E) (N (o285 P) (L (o452 P)) E)) (N (o7 P) (N (o7 P) (L (o409 P)) E) (L (o324 P))))) (N (o39 P) (N (o7 P) (N (o101 P) (N (o7 P) (L (o362 P)) E) (N (o273 P) (L (o7 P)) E)) (N (o148 P) (N (o8 P) (L (o399 P)) E) (N (o7 P) (L (o8 P)) E))) (N (o7 P) (N (o123 P) (N (o213 P) (L (o7 P)) E) (N (o297 P) (L (o461 P)) E)) (N (o169 P) (N (o255 P) (L (o419 P)) E) (L (o7 P)))))) (N (o22 P) (N (o34 P) (N (o55 P) (N (o96 P) (N (o185 P) (L (o353 P)) E) (N (o8 P) (L (o436 P)) E)) (N (o141 P) (N (o7 P) (L (o7 P)) E) (N (o310 P) (L (o7 P)) E))) (N (o76 P) (N (o7 P) (N (o7 P) (L (o377 P)) E) (N (o292 P) (L (o7 P)) E)) (N (o7 P) (N (o250 P) (L (o7 P)) E) (L (o332 P))))) (N (o44 P) (N (o66 P) (N (o108 P) (N (o8 P) (L (o367 P)) E) (N (o7 P) (L (o446 P)) E)) (N (o153 P) (N (o241 P) (L (o404 P)) E) (N (o319 P) (L (o484 P)) E))) (N (o8 P) (N (o129 P) (N (o218 P) (L (o8 P)) E) (N (o7 P) (L (o466 P)) E)) (N (o7 P) (N (o260 P) (L (o426 P)) E) (L (o8 P))))))) (N (o424 P) (N (o18 P) (N (o30 P) (N (o53 P) (N (o92 P) (N (o7 P) (L (o350 P)) E) (N (o266 P) (L (o433 P)) E)) (N (o137 P) (N (o227 P) (L (o393 P)) E) (N (o308 P) (L (o7 P)) E))) (N (o73 P) (N (o7 P) (N (o205 P) (L (o374 P)) E) (N (o21 P) (L (o455 P)) E)) (N (o163 P) (N (o7 P) (L (o7 P)) E) (L (o328 P))))) (N (o7 P) (N (o7 P) (N (o21 P) (N (o192 P) (L (o7 P)) E) (N (o276 P) (L (o442 P)) E)) (N (o150 P) (N (o239 P) (L (o8 P)) E) (N (o7 P) (L (o482 P)) E))) (N (o82 P) (N (o127 P) (N (o8 P) (L (o383 P)) E) (N (o7 P) (L (o8 P)) E)) (N (o8 P) (N (o257 P) (L (o7 P)) E) (L (o340 P)))))) (N (o25 P) (N (o36 P) (N (o58 P) (N (o7 P) (N (o8 P) (L (o360 P)) E) (N (o271 P) (L (o7 P)) E)) (N (o21 P) (N (o234 P) (L (o7 P)) E) (N (o313 P) (L (o477 P)) E))) (N (o7 P) (N (o119 P) (N (o7 P) (L (o7 P)) E) (N (o294 P) (L (o7 P)) E)) (N (o7 P) (N (o8 P) (L (o415 P)) E) (L (o7 P))))) (N (o48 P) (N (o8 P) (N (o110 P) (N (o197 P) (L (o8 P)) E) (N (o281 P) (L (o450 P)) E)) (N (o157 P) (N (o244 P) (L (o406 P)) E) (N (o8 P) (L (o487 P)) E))) (N (o87 P) (N (o132 P) (N (o220 P) (L (o388 P)) E) (N (o303 P) (L (o468 P)) E)) (N (o178 P) (N (o7 P) (L (o8 P)) E) (L (o345 P)))))))) (N (o6 P) (N (o10 P) (N (o7 P) (N (o28 P) (N (o7 P) (N (o90 P) (N (o182 P) (L (o348 P)) E) (N (o265 P) (L (o7 P)) E)) (N (o135 P) (N (o225 P) (L (o391 P)) E) (N (o7 P) (L (o8 P)) E))) (N (o7 P) (N (o8 P) (N (o203 P) (L (o7 P)) E) (N (o287 P) (L (o453 P)) E)) (N (o161 P) (N (o247 P) (L (o8 P)) E) (L (o326 P))))) (N (o8 P) (N (o63 P) (N (o103 P) (N (o191 P) (L (o364 P)) E) (N (o274 P) (L (o441 P)) E)) (N (o7 P) (N (o7 P) (L (o401 P)) E) (N (o316 P) (L (o7 P)) E))) (N (o81 P) (N (o125 P) (N (o215 P) (L (o382 P)) E) (N (o8 P) (L (o463 P)) E)) (N (o171 P) (N (o7 P) (L (o421 P)) E) (L (o339 P)))))) (N (o23 P) (N (o7 P) (N (o56 P) (N (o98 P) (N (o187 P) (L (o355 P)) E) (N (o7 P) (L (o8 P)) E)) (N (o143 P) (N (o233 P) (L (o396 P)) E) (N (o311 P) (L (o476 P)) E))) (N (o8 P) (N (o118 P) (N (o208 P) (L (o8 P)) E) (N (o7 P) (L (o458 P)) E)) (N (o166 P) (N (o252 P) (L (o414 P)) E) (L (o21 P))))) (N (o46 P) (N (o68 P) (N (o7 P) (N (o7 P) (L (o369 P)) E) (N (o279 P) (L (o448 P)) E)) (N (o155 P) (N (o242 P) (L (o7 P)) E) (N (o321 P) (L (o485 P)) E))) (N (o7 P) (N (o130 P) (N (o7 P) (L (o7 P)) E) (N (o302 P) (L (o7 P)) E)) (N (o177 P) (N (o8 P) (L (o428 P)) E) (L (o7 P))))))) (N (o12 P) (N (o20 P) (N (o32 P) (N (o7 P) (N (o94 P) (N (o184 P) (L (o351 P)) E) (N (o268 P) (L (o434 P)) E)) (N (o139 P) (N (o229 P) (L (o8 P)) E) (N (o7 P) (L (o474 P)) E))) (N (o74 P) (N (o116 P) (N (o8 P) (L (o375 P)) E) (N (o7 P) (L (o8 P)) E)) (N (o8 P) (N (o249 P) (L (o412 P)) E) (L (o330 P))))) (N (o42 P) (N (o65 P) (N (o7 P) (N (o194 P) (L (o366 P)) E) (N (o8 P) (L (o444 P)) E)) (N (o151 P) (N (o7 P) (L (o7 P)) E) (N (o318 P) (L (o7 P)) E))) (N (o84 P) (N (o7 P) (N (o7 P) (L (o385 P)) E) (N (o300 P) (L (o7 P)) E)) (N (o173 P) (N (o258 P) (L (o425 P)) E) (L (o342 P)))))) (N (o8 P) (N (o37 P) (N (o21 P) (N (o100 P) (N (o189 P) (L (o361 P)) E) (N (o7 P) (L (o439 P)) E)) (N (o7 P) (N (o236 P) (L (o398 P)) E) (N (o8 P) (L (o479 P)) E))) (N (o79 P) (N (o121 P) (N (o212 P) (L (o380 P)) E) (N (o295 P) (L (o460 P)) E)) (N (o168 P) (N (o7 P) (L (o417 P)) E) (L (o337 P))))) (N (o50 P) (N (o7 P) (N (o111 P) (N (o199 P) (L (o7 P)) E) (N (o283 P) (L (o7 P)) E)) (N (o159 P) (N (o8 P) (L (o407 P)) E) (L (o7 P)))) (N (o7 P) (N (o8 P) (N (o221 P) (L (o7 P)) E) (N (o305 P) (L (o469 P)) E)) (N (o180 P) (N (o263 P) (L (o7 P)) E) (L (o7 P))))))))))
noncomputable def tr12 (P:Params):BT:=(N (o0 P) (N (o1 P) (N (o488 P) (N (o7 P) (N (o7 P) (N (o26 P) (N (o7 P) (N (o8 P) (N (o7 P) (L (o8 P)) (L (o509 P))) (N (o264 P) (L (o430 P)) E)) (N (o133 P) (N (o222 P) (L (o8 P)) E) (N (o7 P) (L (o470 P)) E))) (N (o70 P) (N (o112 P) (N (o200 P) (L (o371 P)) (L (o8 P))) (N (o284 P) (L (o8 P)) E)) (N (o160 P) (N (o245 P) (L (o408 P)) E) (N (o323 P) (L (o490 P)) E)))) (N (o38 P) (N (o61 P) (N (o7 P) (N (o190 P) (L (o7 P)) (L (o519 P))) (N (o8 P) (L (o440 P)) E)) (N (o147 P) (N (o7 P) (L (o7 P)) E) (N (o314 P) (L (o7 P)) E))) (N (o80 P) (N (o122 P) (N (o7 P) (L (o381 P)) (L (o537 P))) (N (o296 P) (L (o7 P)) E)) (N (o7 P) (N (o254 P) (L (o418 P)) E) (N (o338 P) (L (o7 P)) E))))) (N (o21 P) (N (o33 P) (N (o8 P) (N (o95 P) (N (o7 P) (L (o359 P)) (L (o514 P))) (N (o7 P) (L (o435 P)) E)) (N (o140 P) (N (o230 P) (L (o394 P)) E) (N (o8 P) (L (o475 P)) E))) (N (o75 P) (N (o117 P) (N (o206 P) (L (o376 P)) (L (o532 P))) (N (o291 P) (L (o456 P)) E)) (N (o164 P) (N (o7 P) (L (o413 P)) E) (N (o331 P) (L (o495 P)) E)))) (N (o43 P) (N (o7 P) (N (o107 P) (N (o7 P) (L (o7 P)) (L (o7 P))) (N (o277 P) (L (o445 P)) E)) (N (o152 P) (N (o8 P) (L (o403 P)) E) (N (o7 P) (L (o8 P)) E))) (N (o7 P) (N (o21 P) (N (o217 P) (L (o7 P)) E) (N (o301 P) (L (o465 P)) E)) (N (o174 P) (N (o259 P) (L (o7 P)) E) (N (o7 P) (L (o7 P)) E)))))) (N (o7 P) (N (o17 P) (N (o29 P) (N (o52 P) (N (o91 P) (N (o183 P) (L (o349 P)) (L (o8 P))) (N (o7 P) (L (o8 P)) E)) (N (o136 P) (N (o226 P) (L (o392 P)) E) (N (o307 P) (L (o472 P)) E))) (N (o8 P) (N (o114 P) (N (o204 P) (L (o8 P)) (L (o530 P))) (N (o7 P) (L (o454 P)) E)) (N (o162 P) (N (o248 P) (L (o410 P)) E) (N (o327 P) (L (o493 P)) E)))) (N (o40 P) (N (o64 P) (N (o7 P) (N (o7 P) (L (o365 P)) (L (o7 P))) (N (o275 P) (L (o7 P)) E)) (N (o8 P) (N (o238 P) (L (o7 P)) E) (N (o317 P) (L (o481 P)) E))) (N (o7 P) (N (o126 P) (N (o7 P) (L (o7 P)) E) (N (o298 P) (L (o7 P)) E)) (N (o7 P) (N (o8 P) (L (o422 P)) E) (N (o7 P) (L (o503 P)) E))))) (N (o24 P) (N (o21 P) (N (o57 P) (N (o99 P) (N (o7 P) (L (o356 P)) (L (o516 P))) (N (o270 P) (L (o437 P)) E)) (N (o7 P) (N (o7 P) (L (o397 P)) E) (N (o312 P) (L (o7 P)) E))) (N (o77 P) (N (o7 P) (N (o209 P) (L (o378 P)) (L (o535 P))) (N (o8 P) (L (o459 P)) E)) (N (o167 P) (N (o7 P) (L (o7 P)) E) (N (o335 P) (L (o498 P)) E)))) (N (o47 P) (N (o7 P) (N (o8 P) (N (o196 P) (L (o7 P)) (L (o525 P))) (N (o280 P) (L (o449 P)) E)) (N (o156 P) (N (o243 P) (L (o8 P)) E) (N (o7 P) (L (o486 P)) E))) (N (o86 P) (N (o131 P) (N (o8 P) (L (o387 P)) E) (N (o7 P) (L (o8 P)) E)) (N (o7 P) (N (o261 P) (L (o7 P)) E) (N (o344 P) (L (o7 P)) E))))))) (N (o5 P) (N (o9 P) (N (o16 P) (N (o27 P) (N (o51 P) (N (o7 P) (N (o181 P) (L (o7 P)) (L (o511 P))) (N (o8 P) (L (o432 P)) E)) (N (o134 P) (N (o224 P) (L (o7 P)) E) (N (o306 P) (L (o7 P)) E))) (N (o72 P) (N (o7 P) (N (o202 P) (L (o373 P)) (L (o7 P))) (N (o286 P) (L (o7 P)) E)) (N (o8 P) (N (o246 P) (L (o7 P)) E) (N (o325 P) (L (o491 P)) E)))) (N (o7 P) (N (o62 P) (N (o102 P) (N (o8 P) (L (o363 P)) (L (o8 P))) (N (o7 P) (L (o8 P)) E)) (N (o149 P) (N (o237 P) (L (o400 P)) E) (N (o315 P) (L (o480 P)) E))) (N (o8 P) (N (o124 P) (N (o214 P) (L (o8 P)) E) (N (o7 P) (L (o462 P)) E)) (N (o170 P) (N (o256 P) (L (o420 P)) E) (N (o8 P) (L (o501 P)) E))))) (N (o7 P) (N (o35 P) (N (o7 P) (N (o97 P) (N (o186 P) (L (o354 P)) (L (o7 P))) (N (o269 P) (L (o7 P)) E)) (N (o142 P) (N (o21 P) (L (o395 P)) E) (N (o7 P) (L (o8 P)) E))) (N (o7 P) (N (o8 P) (N (o207 P) (L (o7 P)) (L (o533 P))) (N (o293 P) (L (o457 P)) E)) (N (o165 P) (N (o251 P) (L (o8 P)) E) (N (o7 P) (L (o496 P)) E)))) (N (o45 P) (N (o67 P) (N (o109 P) (N (o195 P) (L (o368 P)) (L (o524 P))) (N (o278 P) (L (o447 P)) E)) (N (o154 P) (N (o7 P) (L (o405 P)) E) (N (o320 P) (L (o7 P)) E))) (N (o85 P) (N (o7 P) (N (o219 P) (L (o386 P)) E) (N (o8 P) (L (o467 P)) E)) (N (o21 P) (N (o7 P) (L (o427 P)) E) (N (o343 P) (L (o506 P)) E)))))) (N (o11 P) (N (o19 P) (N (o31 P) (N (o54 P) (N (o93 P) (N (o8 P) (L (o7 P)) (L (o7 P))) (N (o267 P) (L (o7 P)) E)) (N (o138 P) (N (o228 P) (L (o7 P)) E) (N (o309 P) (L (o473 P)) E))) (N (o7 P) (N (o115 P) (N (o7 P) (L (o7 P)) (L (o7 P))) (N (o290 P) (L (o7 P)) E)) (N (o7 P) (N (o8 P) (L (o411 P)) E) (N (o329 P) (L (o7 P)) E)))) (N (o41 P) (N (o8 P) (N (o106 P) (N (o193 P) (L (o8 P)) (L (o522 P))) (N (o7 P) (L (o443 P)) E)) (N (o7 P) (N (o240 P) (L (o402 P)) E) (N (o8 P) (L (o483 P)) E))) (N (o83 P) (N (o128 P) (N (o216 P) (L (o384 P)) E) (N (o299 P) (L (o464 P)) E)) (N (o172 P) (N (o7 P) (L (o21 P)) E) (N (o341 P) (L (o8 P)) E))))) (N (o7 P) (N (o7 P) (N (o7 P) (N (o8 P) (N (o188 P) (L (o21 P)) (L (o517 P))) (N (o272 P) (L (o438 P)) E)) (N (o146 P) (N (o235 P) (L (o8 P)) E) (N (o7 P) (L (o478 P)) E))) (N (o78 P) (N (o120 P) (N (o21 P) (L (o379 P)) (L (o8 P))) (N (o7 P) (L (o8 P)) E)) (N (o8 P) (N (o253 P) (L (o416 P)) E) (N (o336 P) (L (o8 P)) E)))) (N (o49 P) (N (o69 P) (N (o7 P) (N (o198 P) (L (o370 P)) (L (o527 P))) (N (o282 P) (L (o451 P)) E)) (N (o158 P) (N (o7 P) (L (o7 P)) E) (N (o322 P) (L (o7 P)) E))) (N (o88 P) (N (o7 P) (N (o7 P) (L (o389 P)) E) (N (o304 P) (L (o7 P)) E)) (N (o179 P) (N (o262 P) (L (o429 P)) E) (N (o346 P) (L (o508 P)) E)))))))) (N (o13 P) (N (o4 P) (N (o8 P) (N (o8 P) (N (o7 P) (N (o8 P) (N (o89 P) (N (o8 P) (L (o347 P)) (L (o510 P))) (N (o7 P) (L (o431 P)) E)) (N (o7 P) (N (o223 P) (L (o390 P)) E) (N (o8 P) (L (o471 P)) E))) (N (o71 P) (N (o113 P) (N (o201 P) (L (o372 P)) (L (o528 P))) (N (o285 P) (L (o452 P)) E)) (N (o7 P) (N (o7 P) (L (o409 P)) E) (N (o324 P) (L (o7 P)) E)))) (N (o39 P) (N (o7 P) (N (o101 P) (N (o7 P) (L (o362 P)) (L (o7 P))) (N (o273 P) (L (o7 P)) E)) (N (o148 P) (N (o8 P) (L (o399 P)) E) (N (o7 P) (L (o8 P)) E))) (N (o7 P) (N (o123 P) (N (o213 P) (L (o7 P)) (L (o538 P))) (N (o297 P) (L (o461 P)) E)) (N (o169 P) (N (o255 P) (L (o419 P)) E) (N (o7 P) (L (o500 P)) E))))) (N (o22 P) (N (o34 P) (N (o55 P) (N (o96 P) (N (o185 P) (L (o353 P)) (L (o515 P))) (N (o8 P) (L (o436 P)) E)) (N (o141 P) (N (o7 P) (L (o7 P)) E) (N (o310 P) (L (o7 P)) E))) (N (o76 P) (N (o7 P) (N (o7 P) (L (o377 P)) (L (o7 P))) (N (o292 P) (L (o7 P)) E)) (N (o7 P) (N (o250 P) (L (o7 P)) E) (N (o332 P) (L (o7 P)) E)))) (N (o44 P) (N (o66 P) (N (o108 P) (N (o8 P) (L (o367 P)) (L (o8 P))) (N (o7 P) (L (o446 P)) E)) (N (o153 P) (N (o241 P) (L (o404 P)) E) (N (o319 P) (L (o484 P)) E))) (N (o8 P) (N (o129 P) (N (o218 P) (L (o8 P)) E) (N (o7 P) (L (o466 P)) E)) (N (o7 P) (N (o260 P) (L (o426 P)) E) (N (o8 P) (L (o505 P)) E)))))) (N (o489 P) (N (o18 P) (N (o30 P) (N (o53 P) (N (o92 P) (N (o7 P) (L (o350 P)) (L (o512 P))) (N (o266 P) (L (o433 P)) E)) (N (o137 P) (N (o227 P) (L (o393 P)) E) (N (o308 P) (L (o7 P)) E))) (N (o73 P) (N (o7 P) (N (o205 P) (L (o374 P)) (L (o531 P))) (N (o21 P) (L (o455 P)) E)) (N (o163 P) (N (o7 P) (L (o7 P)) E) (N (o328 P) (L (o494 P)) E)))) (N (o7 P) (N (o7 P) (N (o21 P) (N (o192 P) (L (o7 P)) (L (o521 P))) (N (o276 P) (L (o442 P)) E)) (N (o150 P) (N (o239 P) (L (o8 P)) E) (N (o7 P) (L (o482 P)) E))) (N (o82 P) (N (o127 P) (N (o8 P) (L (o383 P)) E) (N (o7 P) (L (o8 P)) E)) (N (o8 P) (N (o257 P) (L (o7 P)) E) (N (o340 P) (L (o7 P)) E))))) (N (o25 P) (N (o36 P) (N (o58 P) (N (o7 P) (N (o8 P) (L (o360 P)) (L (o7 P))) (N (o271 P) (L (o7 P)) E)) (N (o21 P) (N (o234 P) (L (o7 P)) E) (N (o313 P) (L (o477 P)) E))) (N (o7 P) (N (o119 P) (N (o7 P) (L (o7 P)) (L (o7 P))) (N (o294 P) (L (o7 P)) E)) (N (o7 P) (N (o8 P) (L (o415 P)) E) (N (o7 P) (L (o7 P)) E)))) (N (o48 P) (N (o8 P) (N (o110 P) (N (o197 P) (L (o8 P)) (L (o526 P))) (N (o281 P) (L (o450 P)) E)) (N (o157 P) (N (o244 P) (L (o406 P)) E) (N (o8 P) (L (o487 P)) E))) (N (o87 P) (N (o132 P) (N (o220 P) (L (o388 P)) E) (N (o303 P) (L (o468 P)) E)) (N (o178 P) (N (o7 P) (L (o8 P)) E) (N (o345 P) (L (o8 P)) E))))))) (N (o6 P) (N (o10 P) (N (o7 P) (N (o28 P) (N (o7 P) (N (o90 P) (N (o182 P) (L (o348 P)) (L (o7 P))) (N (o265 P) (L (o7 P)) E)) (N (o135 P) (N (o225 P) (L (o391 P)) E) (N (o7 P) (L (o8 P)) E))) (N (o7 P) (N (o8 P) (N (o203 P) (L (o7 P)) (L (o529 P))) (N (o287 P) (L (o453 P)) E)) (N (o161 P) (N (o247 P) (L (o8 P)) E) (N (o326 P) (L (o492 P)) E)))) (N (o8 P) (N (o63 P) (N (o103 P) (N (o191 P) (L (o364 P)) (L (o520 P))) (N (o274 P) (L (o441 P)) E)) (N (o7 P) (N (o7 P) (L (o401 P)) E) (N (o316 P) (L (o7 P)) E))) (N (o81 P) (N (o125 P) (N (o215 P) (L (o382 P)) E) (N (o8 P) (L (o463 P)) E)) (N (o171 P) (N (o7 P) (L (o421 P)) E) (N (o339 P) (L (o502 P)) E))))) (N (o23 P) (N (o7 P) (N (o56 P) (N (o98 P) (N (o187 P) (L (o355 P)) (L (o8 P))) (N (o7 P) (L (o8 P)) E)) (N (o143 P) (N (o233 P) (L (o396 P)) E) (N (o311 P) (L (o476 P)) E))) (N (o8 P) (N (o118 P) (N (o208 P) (L (o8 P)) (L (o534 P))) (N (o7 P) (L (o458 P)) E)) (N (o166 P) (N (o252 P) (L (o414 P)) E) (N (o21 P) (L (o497 P)) E)))) (N (o46 P) (N (o68 P) (N (o7 P) (N (o7 P) (L (o369 P)) (L (o7 P))) (N (o279 P) (L (o448 P)) E)) (N (o155 P) (N (o242 P) (L (o7 P)) E) (N (o321 P) (L (o485 P)) E))) (N (o7 P) (N (o130 P) (N (o7 P) (L (o7 P)) E) (N (o302 P) (L (o7 P)) E)) (N (o177 P) (N (o8 P) (L (o428 P)) E) (N (o7 P) (L (o507 P)) E)))))) (N (o12 P) (N (o20 P) (N (o32 P) (N (o7 P) (N (o94 P) (N (o184 P) (L (o351 P)) (L (o513 P))) (N (o268 P) (L (o434 P)) E)) (N (o139 P) (N (o229 P) (L (o8 P)) E) (N (o7 P) (L (o474 P)) E))) (N (o74 P) (N (o116 P) (N (o8 P) (L (o375 P)) (L (o8 P))) (N (o7 P) (L (o8 P)) E)) (N (o8 P) (N (o249 P) (L (o412 P)) E) (N (o330 P) (L (o8 P)) E)))) (N (o42 P) (N (o65 P) (N (o7 P) (N (o194 P) (L (o366 P)) (L (o523 P))) (N (o8 P) (L (o444 P)) E)) (N (o151 P) (N (o7 P) (L (o7 P)) E) (N (o318 P) (L (o7 P)) E))) (N (o84 P) (N (o7 P) (N (o7 P) (L (o385 P)) E) (N (o300 P) (L (o7 P)) E)) (N (o173 P) (N (o258 P) (L (o425 P)) E) (N (o342 P) (L (o504 P)) E))))) (N (o8 P) (N (o37 P) (N (o21 P) (N (o100 P) (N (o189 P) (L (o361 P)) (L (o518 P))) (N (o7 P) (L (o439 P)) E)) (N (o7 P) (N (o236 P) (L (o398 P)) E) (N (o8 P) (L (o479 P)) E))) (N (o79 P) (N (o121 P) (N (o212 P) (L (o380 P)) (L (o536 P))) (N (o295 P) (L (o460 P)) E)) (N (o168 P) (N (o7 P) (L (o417 P)) E) (N (o337 P) (L (o499 P)) E)))) (N (o50 P) (N (o7 P) (N (o111 P) (N (o199 P) (L (o7 P)) (L (o7 P))) (N (o283 P) (L (o7 P)) E)) (N (o159 P) (N (o8 P) (L (o407 P)) E) (N (o7 P) (L (o8 P)) E))) (N (o7 P) (N (o8 P) (N (o221 P) (L (o7 P)) E) (N (o305 P) (L (o469 P)) E)) (N (o180 P) (N (o263 P) (L (o7 P)) E) (N (o7 P) (L (o7 P)) E)))))))))
noncomputable def hf (P:Params):List Obj:=[o0 P,o1 P,o13 P,o488 P,o4 P,o5 P,o6 P,o7 P,o8 P,o9 P,o10 P,o7 P,o489 P,o11 P,o12 P,o7 P,o8 P,o16 P,o7 P,o17 P,o18 P,o19 P,o20 P,o21 P,o22 P,o7 P,o23 P,o24 P,o25 P,o7 P,o8 P,o26 P,o7 P,o27 P,o28 P,o29 P,o30 P,o31 P,o32 P,o33 P,o34 P,o35 P,o7 P,o21 P,o36 P,o7 P,o37 P,o38 P,o39 P,o7 P,o8 P,o40 P,o7 P,o41 P,o42 P,o43 P,o44 P,o45 P,o46 P,o47 P,o48 P,o49 P,o50 P,o7 P,o8 P,o51 P,o7 P,o52 P,o53 P,o54 P,o7 P,o8 P,o55 P,o7 P,o56 P,o57 P,o58 P,o7 P,o21 P,o61 P,o7 P,o62 P,o63 P,o64 P,o7 P,o8 P,o65 P,o7 P,o66 P,o67 P,o68 P,o7 P,o8 P,o69 P,o7 P,o70 P,o71 P,o72 P,o7 P,o8 P,o73 P,o7 P,o74 P,o75 P,o76 P,o7 P,o8 P,o77 P,o7 P,o78 P,o79 P,o80 P,o7 P,o8 P,o81 P,o7 P,o82 P,o83 P,o84 P,o7 P,o8 P,o85 P,o7 P,o86 P,o87 P,o88 P,o7 P,o8 P,o89 P,o7 P,o90 P,o91 P,o92 P,o93 P,o94 P,o95 P,o96 P,o97 P,o98 P,o99 P,o7 P,o8 P,o100 P,o7 P,o101 P,o102 P,o103 P,o7 P,o21 P,o106 P,o7 P,o107 P,o108 P,o109 P,o7 P,o8 P,o110 P,o7 P,o111 P,o112 P,o113 P,o7 P,o8 P,o114 P,o7 P,o115 P,o116 P,o117 P,o7 P,o8 P,o118 P,o7 P,o119 P,o120 P,o121 P,o122 P,o123 P,o124 P,o125 P,o126 P,o127 P,o128 P,o7 P,o21 P,o129 P,o7 P,o130 P,o131 P,o132 P,o7 P,o8 P,o133 P,o7 P,o134 P,o135 P,o136 P,o137 P,o138 P,o139 P,o140 P,o141 P,o142 P,o143 P,o7 P,o21 P,o146 P,o7 P,o147 P,o148 P,o149 P,o7 P,o8 P,o150 P,o7 P,o151 P,o152 P,o153 P,o154 P,o155 P,o156 P,o157 P,o158 P,o159 P,o160 P,o7 P,o8 P,o161 P,o162 P,o163 P,o7 P,o8 P,o164 P,o7 P,o165 P,o166 P,o167 P,o7 P,o8 P,o168 P,o7 P,o169 P,o170 P,o171 P,o7 P,o8 P,o172 P,o173 P,o174 P,o7 P,o21 P,o177 P,o7 P,o178 P,o179 P,o180 P,o7 P,o8 P,o181 P,o182 P,o183 P,o7 P,o8 P,o184 P,o7 P,o185 P,o186 P,o187 P,o7 P,o8 P,o188 P,o189 P,o190 P,o7 P,o8 P,o191 P,o7 P,o192 P,o193 P,o194 P,o7 P,o8 P,o195 P,o7 P,o196 P,o197 P,o198 P,o199 P,o200 P,o201 P,o202 P,o203 P,o204 P,o205 P,o7 P,o8 P,o206 P,o7 P,o207 P,o208 P,o209 P,o7 P,o21 P,o212 P,o7 P,o213 P,o214 P,o215 P,o7 P,o8 P,o216 P,o7 P,o217 P,o218 P,o219 P,o7 P,o8 P,o220 P,o7 P,o221 P,o222 P,o223 P,o224 P,o225 P,o226 P,o227 P,o228 P,o229 P,o230 P,o7 P,o21 P,o233 P,o7 P,o234 P,o235 P,o236 P,o7 P,o8 P,o237 P,o7 P,o238 P,o239 P,o240 P,o7 P,o8 P,o241 P,o7 P,o242 P,o243 P,o244 P,o7 P,o8 P,o245 P,o7 P,o246 P,o247 P,o248 P,o7 P,o8 P,o249 P,o7 P,o250 P,o251 P,o252 P,o7 P,o8 P,o253 P,o7 P,o254 P,o255 P,o256 P,o7 P,o8 P,o257 P,o7 P,o258 P,o259 P,o260 P,o7 P,o8 P,o261 P,o7 P,o262 P,o263 P,o264 P,o7 P,o8 P,o265 P,o7 P,o266 P,o267 P,o268 P,o7 P,o8 P,o269 P,o7 P,o270 P,o271 P,o272 P,o7 P,o8 P,o273 P,o7 P,o274 P,o275 P,o276 P,o7 P,o8 P,o277 P,o7 P,o278 P,o279 P,o280 P,o281 P,o282 P,o283 P,o284 P,o285 P,o286 P,o287 P,o7 P,o21 P,o290 P,o7 P,o291 P,o292 P,o293 P,o7 P,o8 P,o294 P,o7 P,o295 P,o296 P,o297 P,o7 P,o8 P,o298 P,o7 P,o299 P,o300 P,o301 P,o7 P,o8 P,o302 P,o7 P,o303 P,o304 P,o305 P,o7 P,o8 P,o306 P,o7 P,o307 P,o308 P,o309 P,o7 P,o8 P,o310 P,o7 P,o311 P,o312 P,o313 P,o7 P,o8 P,o314 P,o7 P,o315 P,o316 P,o317 P,o7 P,o8 P,o318 P,o7 P,o319 P,o320 P,o321 P,o7 P,o8 P,o322 P,o7 P,o323 P,o324 P,o325 P,o326 P,o327 P,o328 P,o329 P,o330 P,o331 P,o332 P,o7 P,o21 P,o335 P,o7 P,o336 P,o337 P,o338 P,o7 P,o8 P,o339 P,o7 P,o340 P,o341 P,o342 P,o7 P,o8 P,o343 P,o7 P,o344 P,o345 P,o346 P,o7 P,o8 P,o347 P,o7 P,o348 P,o349 P,o350 P,o7 P,o351 P,o359 P,o353 P,o354 P,o355 P,o356 P,o360 P,o21 P,o361 P,o7 P,o362 P,o363 P,o364 P,o365 P,o7 P,o8 P,o366 P,o7 P,o367 P,o368 P,o369 P,o7 P,o8 P,o370 P,o7 P,o371 P,o372 P,o373 P,o7 P,o8 P,o374 P,o7 P,o375 P,o376 P,o377 P,o7 P,o8 P,o378 P,o7 P,o379 P,o380 P,o381 P,o7 P,o8 P,o382 P,o7 P,o383 P,o384 P,o385 P,o7 P,o8 P,o386 P,o7 P,o387 P,o388 P,o389 P,o7 P,o8 P,o390 P,o7 P,o391 P,o392 P,o393 P,o7 P,o8 P,o394 P,o7 P,o395 P,o396 P,o397 P,o7 P,o8 P,o398 P,o7 P,o399 P,o400 P,o401 P,o7 P,o8 P,o402 P,o7 P,o403 P,o404 P,o405 P,o7 P,o8 P,o406 P,o7 P,o407 P,o408 P,o409 P,o7 P,o8 P,o410 P,o7 P,o411 P,o412 P,o413 P,o7 P,o8 P,o414 P,o7 P,o415 P,o416 P,o417 P,o418 P,o419 P,o420 P,o421 P,o422 P,o7 P,o21 P,o425 P,o7 P,o426 P,o427 P,o428 P,o7 P,o8 P,o429 P,o7 P,o430 P,o431 P,o432 P,o7 P,o8 P,o433 P,o7 P,o434 P,o435 P,o436 P,o7 P,o8 P,o437 P,o7 P,o438 P,o439 P,o440 P,o7 P,o8 P,o441 P,o7 P,o442 P,o443 P,o444 P,o445 P,o446 P,o447 P,o448 P,o449 P,o450 P,o451 P,o7 P,o8 P,o452 P,o7 P,o453 P,o454 P,o455 P,o7 P,o8 P,o456 P,o7 P,o457 P,o458 P,o459 P,o7 P,o8 P,o460 P,o7 P,o461 P,o462 P,o463 P,o7 P,o8 P,o464 P,o7 P,o465 P,o466 P,o467 P,o7 P,o8 P,o468 P,o7 P,o469 P,o470 P,o471 P,o7 P,o8 P,o472 P,o7 P,o473 P,o474 P,o475 P,o7 P,o8 P,o476 P,o7 P,o477 P,o478 P,o479 P,o7 P,o8 P,o480 P,o7 P,o481 P,o482 P,o483 P,o7 P,o8 P,o484 P,o7 P,o485 P,o486 P,o487 P,o7 P,o8 P,o490 P,o7 P,o491 P,o492 P,o493 P,o494 P,o7 P,o8 P,o495 P,o7 P,o496 P,o497 P,o498 P,o7 P,o8 P,o499 P,o7 P,o500 P,o501 P,o502 P,o503 P,o7 P,o8 P,o504 P,o7 P,o505 P,o506 P,o507 P,o7 P,o8 P,o508 P,o7 P,o509 P,o510 P,o511 P,o7 P,o8 P,o512 P,o7 P,o513 P,o514 P,o515 P,o7 P,o8 P,o516 P,o7 P,o517 P,o518 P,o519 P,o7 P,o8 P,o520 P,o7 P,o521 P,o522 P,o523 P,o7 P,o8 P,o524 P,o7 P,o525 P,o526 P,o527 P,o7 P,o8 P,o528 P,o7 P,o529 P,o530 P,o531 P,o7 P,o8 P,o532 P,o7 P,o533 P,o534 P,o535 P,o7 P,o8 P,o536 P,o537 P,o538 P]
noncomputable def env0:Env:={ scope:=pw.main.scope,locals:=mainNs,globals:=mainNs,cells:=[],code:=.ref 13,frame:=some 14 }
noncomputable abbrev cE:Code:=.body (behindTheImports pw) env0
noncomputable abbrev fr0:List Frame:=[topFrame ⟨0,0,0,0⟩]
noncomputable abbrev sT (t:Params→BT) (n toks:Nat) (w:World) (os:OsState):SharedT:=⟨t w.params,n,{},#[],{},toks,os⟩
theorem pc0 (w:World):(fun os=>segRunT treeTable pw w 11 (some (.ref 6)) 1 600 (sT tr0 15 187 w os) (piecesOf ((pw.main.body.drop 0).take 10) env0 cE ⟨0,0,0,0⟩ fr0))=fun os=>some (.next,sT tr1 77 293 w os,cE,⟨25,0,29,16⟩):=by
  rw [PySem.W.Fast.te10110043849684766642,PySem.W.Fast.te14364793385576792824]; kernel_rfl
theorem pc1 (w:World):(fun os=>segRunT treeTable pw w 11 (some (.ref 6)) 1 454 (sT tr1 77 293 w os) (piecesOf ((pw.main.body.drop 10).take 2) env0 cE ⟨25,0,29,16⟩ fr0))=fun os=>some (.next,sT tr2 147 387 w os,cE,⟨99,0,102,35⟩):=by
  rw [PySem.W.Fast.te10110043849684766642,PySem.W.Fast.te14364793385576792824]; kernel_rfl
theorem pc2 (w:World):(fun os=>segRunT treeTable pw w 11 (some (.ref 6)) 1 579 (sT tr2 147 387 w os) (piecesOf ((pw.main.body.drop 12).take 8) env0 cE ⟨99,0,102,35⟩ fr0))=fun os=>some (.next,sT tr3 203 489 w os,cE,⟨132,0,138,28⟩):=by
  rw [PySem.W.Fast.te10110043849684766642,PySem.W.Fast.te14364793385576792824]; kernel_rfl
theorem pc3 (w:World):(fun os=>segRunT treeTable pw w 11 (some (.ref 6)) 1 347 (sT tr3 203 489 w os) (piecesOf ((pw.main.body.drop 20).take 5) env0 cE ⟨132,0,138,28⟩ fr0))=fun os=>some (.next,sT tr4 248 558 w os,cE,⟨173,0,179,16⟩):=by
  rw [PySem.W.Fast.te10110043849684766642,PySem.W.Fast.te14364793385576792824]; kernel_rfl
theorem pc4 (w:World):(fun os=>segRunT treeTable pw w 11 (some (.ref 6)) 1 395 (sT tr4 248 558 w os) (piecesOf ((pw.main.body.drop 25).take 3) env0 cE ⟨173,0,179,16⟩ fr0))=fun os=>some (.next,sT tr5 300 638 w os,cE,⟨212,0,213,108⟩):=by
  rw [PySem.W.Fast.te10110043849684766642,PySem.W.Fast.te14364793385576792824]; kernel_rfl
theorem pc5 (w:World):(fun os=>segRunT treeTable pw w 11 (some (.ref 6)) 1 268 (sT tr5 300 638 w os) (piecesOf ((pw.main.body.drop 28).take 2) env0 cE ⟨212,0,213,108⟩ fr0))=fun os=>some (.next,sT tr6 328 681 w os,cE,⟨232,0,232,8⟩):=by
  rw [PySem.W.Fast.te10110043849684766642,PySem.W.Fast.te14364793385576792824]; kernel_rfl
theorem pc6 (w:World):(fun os=>segRunT treeTable pw w 11 (some (.ref 6)) 1 561 (sT tr6 328 681 w os) (piecesOf ((pw.main.body.drop 30).take 2) env0 cE ⟨232,0,232,8⟩ fr0))=fun os=>some (.next,sT tr7 419 801 w os,cE,⟨298,0,298,8⟩):=by
  rw [PySem.W.Fast.te10110043849684766642,PySem.W.Fast.te14364793385576792824]; kernel_rfl
theorem pc7 (w:World):(fun os=>segRunT treeTable pw w 11 (some (.ref 6)) 1 469 (sT tr7 419 801 w os) (piecesOf ((pw.main.body.drop 32).take 2) env0 cE ⟨298,0,298,8⟩ fr0))=fun os=>some (.next,sT tr8 489 901 w os,cE,⟨341,0,341,8⟩):=by
  rw [PySem.W.Fast.te10110043849684766642,PySem.W.Fast.te14364793385576792824]; kernel_rfl
theorem pc8 (w:World):(fun os=>segRunT treeTable pw w 11 (some (.ref 6)) 1 293 (sT tr8 489 901 w os) (piecesOf ((pw.main.body.drop 34).take 2) env0 cE ⟨341,0,341,8⟩ fr0))=fun os=>some (.next,sT tr9 524 945 w os,cE,⟨352,0,352,8⟩):=by
  rw [PySem.W.Fast.te10110043849684766642,PySem.W.Fast.te14364793385576792824]; kernel_rfl
theorem pc9 (w:World):(fun os=>segRunT treeTable pw w 11 (some (.ref 6)) 1 647 (sT tr9 524 945 w os) (piecesOf ((pw.main.body.drop 36).take 1) env0 cE ⟨352,0,352,8⟩ fr0))=fun os=>some (.next,sT tr10 628 1082 w os,cE,⟨353,0,413,41⟩):=by
  rw [PySem.W.Fast.te10110043849684766642,PySem.W.Fast.te14364793385576792824]; kernel_rfl
theorem pc10 (w:World):(fun os=>segRunT treeTable pw w 11 (some (.ref 6)) 1 643 (sT tr10 628 1082 w os) (piecesOf ((pw.main.body.drop 37).take 13) env0 cE ⟨353,0,413,41⟩ fr0))=fun os=>some (.next,sT tr11 733 1236 w os,cE,⟨480,0,484,66⟩):=by
  rw [PySem.W.Fast.te10110043849684766642,PySem.W.Fast.te14364793385576792824]; kernel_rfl
theorem pc11 (w:World):(fun os=>segRunT treeTable pw w 11 (some (.ref 6)) 1 400 (sT tr11 733 1236 w os) (piecesOf ((pw.main.body.drop 50).take 13) env0 cE ⟨480,0,484,66⟩ fr0))=fun os=>some (.next,sT tr12 817 1364 w os,cE,⟨575,0,600,94⟩):=by
  rw [PySem.W.Fast.te10110043849684766642,PySem.W.Fast.te14364793385576792824]; kernel_rfl
end
end Hd
end Mine
end
section
open PySem PySem.W PyProof.Rows
set_option Elab.async false
set_option maxRecDepth 100000
set_option maxHeartbeats 0
namespace Mine
namespace Hd
theorem cut0:behindTheImports pw=((pw.main.body.drop 0).take 10)++(((pw.main.body.drop 10).take 2)++(((pw.main.body.drop 12).take 8)++(((pw.main.body.drop 20).take 5)++(((pw.main.body.drop 25).take 3)++(((pw.main.body.drop 28).take 2)++(((pw.main.body.drop 30).take 2)++(((pw.main.body.drop 32).take 2)++(((pw.main.body.drop 34).take 2)++(((pw.main.body.drop 36).take 1)++(((pw.main.body.drop 37).take 13)++(((pw.main.body.drop 50).take 13)++[]))))))))))):=by kernel_rfl
noncomputable def Hf (P:Params):Heap:=⟨(hf P).toArray,{}⟩
theorem pre0 (w:World):(fun os=>topGo treeTable pw w 11 (some (.ref 6)) 12 ⟨boot_heap w.params,Array.mk [],boot_drawn,boot_toks,os⟩ (topStub pw))=fun os=>some ((sT tr0 15 187 w os).abs,⟨denote treeTable cE,cE,⟨0,0,0,0⟩,fr0⟩):=by
  rw [PySem.W.Fast.te15667345088766844465,PySem.W.Fast.te14364793385576792824,PySem.W.Fast.te11892475500146522536]; kernel_rfl
theorem blk0 (w:World):(fun os=>segRun treeTable pw w 11 (some (.ref 6)) 1 1 (sT tr0 15 187 w os).abs (blockOf (behindTheImports pw) env0 cE ⟨0,0,0,0⟩ fr0))=fun os=>some (.next,(sT tr0 15 187 w os).abs,cE,⟨0,0,0,0⟩):=by
  rw [PySem.W.Fast.te14374325043358763698,PySem.W.Fast.te14364793385576792824]; kernel_rfl
theorem heap0 (P:Params):absHeap (tr12 P) 817 {}=Hf P:=by kernel_rfl
theorem fin0 (w:World):(fun os=>topRun treeTable pw w 11 (some (.ref 6)) 2 ⟨Hf w.params,#[],{},1364,os⟩ ⟨doneF .next,cE,⟨575,0,600,94⟩,fr0⟩)=fun os=>some ⟨Hf w.params,#[],{},1364,os⟩:=by
  rw [PySem.W.Fast.te14082659384304107361,PySem.W.Fast.te14364793385576792824]; kernel_rfl
theorem fin1 (w:World) (os:OsState):topRun treeTable pw w 11 (some (.ref 6)) 2 (sT tr12 817 1364 w os).abs ⟨doneF .next,cE,⟨575,0,600,94⟩,fr0⟩=some ⟨Hf w.params,#[],{},1364,os⟩:=by
  have e:(sT tr12 817 1364 w os).abs=⟨Hf w.params,#[],{},1364,os⟩:=by
    show (⟨absHeap (tr12 w.params) 817 {},#[],{},1364,os⟩:Shared)=_
    rw [heap0]
  rw [e]; exact congrFun (fin0 w) os
theorem run0 (w:World) (os:OsState):topRun treeTable pw w 11 (some (.ref 6)) (12+(1+(600+(454+(579+(347+(395+(268+(561+(469+(293+(647+(643+(400+2)))))))))))))) ⟨boot_heap w.params,Array.mk [],boot_drawn,boot_toks,os⟩ (topStub pw)=some ⟨Hf w.params,#[],{},1364,os⟩:=by
  have h:=fin1 w os
  refine go_top (congrFun (pre0 w) os) (piece_block (congrFun (blk0 w) os) ?_)
  rw [cut0]
  exact piece_app (segRun_of (congrFun (pc0 w) os)) (piece_app (segRun_of (congrFun (pc1 w) os)) (piece_app (segRun_of (congrFun (pc2 w) os)) (piece_app (segRun_of (congrFun (pc3 w) os)) (piece_app (segRun_of (congrFun (pc4 w) os)) (piece_app (segRun_of (congrFun (pc5 w) os)) (piece_app (segRun_of (congrFun (pc6 w) os)) (piece_app (segRun_of (congrFun (pc7 w) os)) (piece_app (segRun_of (congrFun (pc8 w) os)) (piece_app (segRun_of (congrFun (pc9 w) os)) (piece_app (segRun_of (congrFun (pc10 w) os)) (piece_app (segRun_of (congrFun (pc11 w) os)) (piece_nil h))))))))))))
theorem open0:opening pw=plainProg pw.main.scope.names:=by kernel_rfl
theorem fence0 (s:Shared):fenceModules? pw s=some s:=by kernel_rfl
theorem size0 (w:World):((boot_heap w.params).isNs mainGlobals && (Array.mk []:Array GenState).size == 0,(boot_heap w.params).objs.size,(boot_heap w.params).nsMap mainGlobals "__annotations__")=(true,11,some (.ref 6)):=by kernel_rfl
end Hd
end Mine
end
section
open PySem PySem.W PyProof.Rows
set_option Elab.async false
set_option maxRecDepth 100000
set_option maxHeartbeats 0
namespace Mine.Hd
noncomputable abbrev rw0:OpenLaw:=PySem.Challenge.rw_pq0294_01
noncomputable def qv:Program:={ pw with main:={ pw.main with body:=pw.main.body.drop 62 } }
noncomputable def lo:List Str:=(pw.main.scope.names.map (·.1)).filter fun x=>x != ("law" : Str) && x != ("__name__" : Str)
noncomputable def Xt0 (s:Shared):Bool:=xlAt qv [] s && recOk (RowW.records rw0.row.toRowW) s
theorem looks0 (w:World):(fun os=>((staticsOk (importedModules pw.main.body) (boot_heap w.params) (Hf w.params) && namesBound pw (Hf w.params) && gensDone ⟨Hf w.params,#[],{},1364,os⟩ && laidKept (boot_heap w.params) (Hf w.params)),
        openSeen qv lo (importedModules pw.main.body) Xt0 true ⟨Hf w.params,#[],{},1364,os⟩,(⟨Hf w.params,#[],{},1364,os⟩:Shared).heap))=fun _=>(true,openGood qv lo,Hf w.params):=by
  rw [PySem.W.Fast.te4187177175401517315,PySem.W.Fast.te5923862056798008813]; kernel_rfl
end Mine.Hd
end
section
open PySem PySem.W PyProof.Rows
set_option Elab.async false
set_option maxRecDepth 100000
set_option maxHeartbeats 0
namespace Mine.Hd
theorem left0:LeftO pw qv lo Xt0 (fun s=>s.heap) (fun w=>Hf w.params) 12000:=
  LeftO.of_pieces (boot_open open0 (by rfl) fence0) size0 run0 (by decide +kernel) looks0
theorem said0:rw0.wellSaid=true:=by
  rw [PySem.W.Fast.te9446332074065402090]; kernel_rfl
end Mine.Hd
end
section
open PySem PySem.W PyProof.Rows
set_option Elab.async false
set_option maxRecDepth 100000
set_option maxHeartbeats 0
set_option pp.maxSteps 3000
namespace Mine.Hd
theorem hyk (w:World) (h h':Heap) (x:∀ b o,(Hf w.params).get? b=some o→h.get? b=some o) (k:∀ b o,h.get? b=some o→h'.get? b=some o):∀ b o,(Hf w.params).get? b=some o→h'.get? b=some o:=fun b o e=>k b o (x b o e)
theorem goal0 (hc:WalkO qv lo (XL qv []) (fun w h=>∀ b o,(Hf w.params).get? b=some o→h.get? b=some o) rw0.row.toRowW ((defOf qv rw0.row.name).get (by kernel_rfl)).1 ((defOf qv rw0.row.name).get (by kernel_rfl)).2 fun f vs=>PySem.call f vs):rw0.Holds:=by
  refine holds_law said0 fun said=>?_
  refine holds_open (q:=qv) (loose:=lo) (Xt:=Xt0) (XP:=XL qv []) (Yf:=fun s=>s.heap) (Ya:=fun w=>Hf w.params) (YP:=fun w h=>∀ b o,(Hf w.params).get? b=some o→h.get? b=some o) (N:=12000) left0 (fun w s e b o h=>by rw [e]; exact h) hyk (fun s e=>xl_of s (Bool.and_eq_true_iff.mp e).1) XL.keeps (by kernel_rfl) (by kernel_rfl) (by kernel_rfl) (fun s e=>recFacts_of (Bool.and_eq_true_iff.mp e).2) (by rfl) said (by kernel_rfl) ⟨rfl,rfl,rfl,rfl,rfl,by kernel_rfl⟩ ?hw hc
  case hw=>exact ⟨[.list []],by decide +kernel,by decide +kernel⟩
end Mine.Hd
end
section
open PySem PySem.W PyProof.Rows PySem.Calls
set_option Elab.async false
set_option linter.all false
set_option autoImplicit false
set_option maxRecDepth 100000
namespace Mine
noncomputable def KK (Pm:Params):Frag:=(List.range 817).zip (Hd.hf Pm)
noncomputable def atab:List (Nat×List Str):=[(58,["quotes", "escape", "line_starts", "start", "end", "nests"]),(135,["signs", "codes", "state", "at", "begun", "spans"]),(177,["signs", "states"]),(198,["group", "face", "way", "is_lax"]),(219,["matcher", "marks", "anchored"]),(288,["signs", "rules", "string_face", "comment_face", "states", "faces", "looked"]),(323,["words"]),(414,["room", "cells", "gap_start", "gap_end"]),(484,["rows"]),(625,["number", "name", "text", "markers", "point", "begv", "zv", "mark", "is_live", "is_read_only", "ticks", "codes_ticks", "saved_ticks", "listeners", "undo", "props", "overlays", "locals", "syntax", "file"]),(665,["rows", "begin", "end", "growth"])]
noncomputable def mtab:List (Nat×Str×Nat):=[(135,Str.ofString "leave",97),(135,Str.ofString "enter",104),(135,Str.ofString "in_code",111),(135,Str.ofString "in_string",118),(135,Str.ofString "in_comment",125),(135,Str.ofString "go",132),(177,Str.ofString "changed",167),(177,Str.ofString "begin_of",174),(288,Str.ofString "look",266),(288,Str.ofString "look_at",271),(288,Str.ofString "changed",278),(288,Str.ofString "dirty",285),(323,Str.ofString "search",320),(414,Str.ofString "size",348),(414,Str.ofString "code",355),(414,Str.ofString "codes",362),(414,Str.ofString "move_gap",369),(414,Str.ofString "widen_gap",376),(414,Str.ofString "insert",383),(414,Str.ofString "delete",390),(414,Str.ofString "put",397),(414,Str.ofString "narrow_gap",404),(414,Str.ofString "is_whole",411),(484,Str.ofString "numbers",439),(484,Str.ofString "put",446),(484,Str.ofString "drop",453),(484,Str.ofString "within",460),(484,Str.ofString "inserted",467),(484,Str.ofString "deleted",474),(484,Str.ofString "replaced",481),(625,Str.ofString "shown",545),(625,Str.ofString "kind",552),(625,Str.ofString "begin",559),(625,Str.ofString "end",566),(625,Str.ofString "size",573),(625,Str.ofString "code_at",580),(625,Str.ofString "codes",587),(625,Str.ofString "goto",594),(625,Str.ofString "tick",601),(625,Str.ofString "is_modified",608),(625,Str.ofString "set_modified",615),(625,Str.ofString "touch",622),(665,Str.ofString "before_change",648),(665,Str.ofString "after_change",655),(665,Str.ofString "taken",662)]
noncomputable def ftab:List (Str×Nat):=[(Str.ofString "_wall",21),(Str.ofString "stands_at",69),(Str.ofString "is_line_comment",76),(Str.ofString "scanned",146),(Str.ofString "painted",228),(Str.ofString "mark_groups",235),(Str.ofString "mark_rule",242),(Str.ofString "line_faces",247),(Str.ofString "is_word_code",299),(Str.ofString "need_writable",676),(Str.ofString "need_room",683),(Str.ofString "reached",690),(Str.ofString "tell_ahead",697),(Str.ofString "tell_behind",704),(Str.ofString "text_out",711),(Str.ofString "text_in",718),(Str.ofString "hung_out",725),(Str.ofString "hung_in",732),(Str.ofString "put_in",739),(Str.ofString "insert_at",747),(Str.ofString "delete",754),(Str.ofString "replace",762),(Str.ofString "_law_draw",769),(Str.ofString "_law_piece",776),(Str.ofString "_law_codes",783),(Str.ofString "_law_lines",790),(Str.ofString "_law_fresh",797),(Str.ofString "_law_edit",804),(Str.ofString "_law_caught_up",811),(Str.ofString "law",816)]
noncomputable def ctab:List (Str×Nat×Nat):=[(Str.ofString "Signs",58,55),(Str.ofString "Scan",135,90),(Str.ofString "LineStates",177,160),(Str.ofString "Mark",198,195),(Str.ofString "Rule",219,216),(Str.ofString "FontLock",288,259),(Str.ofString "WordMatcher",323,313),(Str.ofString "GapText",414,341),(Str.ofString "Markers",484,432),(Str.ofString "Buffer",625,538),(Str.ofString "ChangeLog",665,641)]
noncomputable def itab:List (Str×Int):=[(Str.ofString "CODE",0),(Str.ofString "STRING",1),(Str.ofString "COMMENT",2),(Str.ofString "NEVER",0),(Str.ofString "ALWAYS",1),(Str.ofString "KEEP",2),(Str.ofString "FIRST",3),(Str.ofString "LAST",4),(Str.ofString "WORD_CODES",128),(Str.ofString "LONGEST",4194304)]
noncomputable def FT:List (Nat×Stmt):=[(21,Hd.T 0),(35,Hd.C 2 0),(55,Hd.C 7 0),(69,Hd.T 8),(76,Hd.T 9),(90,Hd.C 10 0),(97,Hd.C 10 1),(104,Hd.C 10 2),(111,Hd.C 10 3),(118,Hd.C 10 4),(125,Hd.C 10 5),(132,Hd.C 10 6),(146,Hd.T 11),(160,Hd.C 12 0),(167,Hd.C 12 1),(174,Hd.C 12 2),(195,Hd.C 19 0),(216,Hd.C 20 0),(228,Hd.T 21),(235,Hd.T 22),(242,Hd.T 23),(247,Hd.T 24),(259,Hd.C 25 0),(266,Hd.C 25 1),(271,Hd.C 25 2),(278,Hd.C 25 3),(285,Hd.C 25 4),(299,Hd.T 27),(313,Hd.C 28 0),(320,Hd.C 28 1),(341,Hd.C 30 0),(348,Hd.C 30 1),(355,Hd.C 30 2),(362,Hd.C 30 3),(369,Hd.C 30 4),(376,Hd.C 30 5),(383,Hd.C 30 6),(390,Hd.C 30 7),(397,Hd.C 30 8),(404,Hd.C 30 9),(411,Hd.C 30 10),(432,Hd.C 32 0),(439,Hd.C 32 1),(446,Hd.C 32 2),(453,Hd.C 32 3),(460,Hd.C 32 4),(467,Hd.C 32 5),(474,Hd.C 32 6),(481,Hd.C 32 7),(502,Hd.C 34 0),(509,Hd.C 34 1),(516,Hd.C 34 2),(538,Hd.C 36 0),(545,Hd.C 36 1),(552,Hd.C 36 2),(559,Hd.C 36 3),(566,Hd.C 36 4),(573,Hd.C 36 5),(580,Hd.C 36 6),(587,Hd.C 36 7),(594,Hd.C 36 8),(601,Hd.C 36 9),(608,Hd.C 36 10),(615,Hd.C 36 11),(622,Hd.C 36 12),(641,Hd.C 38 0),(648,Hd.C 38 1),(655,Hd.C 38 2),(662,Hd.C 38 3),(676,Hd.T 41),(683,Hd.T 42),(690,Hd.T 43),(697,Hd.T 44),(704,Hd.T 45),(711,Hd.T 46),(718,Hd.T 47),(725,Hd.T 48),(732,Hd.T 49),(739,Hd.T 50),(747,Hd.T 51),(754,Hd.T 52),(762,Hd.T 53),(769,Hd.T 55),(776,Hd.T 56),(783,Hd.T 57),(790,Hd.T 58),(797,Hd.T 59),(804,Hd.T 60),(811,Hd.T 61),(816,Hd.T 62)]
noncomputable def attrB (Pm:Params) (c:Nat) (x:Str):Bool:=plainGet (KK Pm) c x && hasDictIn (KK Pm) c && ((findIn (KK Pm) (.ref c) x).any (noGet (KK Pm))) &&
  findIn (KK Pm) (.ref c) "__setattr__" == some (some (.builtin "object.__setattr__")) && plainOver (KK Pm) c && takerIn (KK Pm) c x == some none
theorem atab_ok (Pm:Params):atab.all (fun q=>q.2.all (attrB Pm q.1))=true:=by kernel_rfl
noncomputable def methB (Pm:Params) (q:Nat×Str×Nat):Bool:=plainGet (KK Pm) q.1 q.2.1 && findIn (KK Pm) (.ref q.1) q.2.1 == some (some (.ref q.2.2)) && isFn (KK Pm) (.ref q.2.2) && keepIn (KK Pm) (.ref q.2.2)
theorem mtab_ok (Pm:Params):mtab.all (methB Pm)=true:=by kernel_rfl
noncomputable def fnB (Pm:Params) (q:Str×Nat):Bool:=nsIn (KK Pm) mainGlobals q.1 == some (some (.ref q.2)) && keepIn (KK Pm) (.ref q.2)
theorem ftab_ok (Pm:Params):ftab.all (fnB Pm)=true:=by kernel_rfl
noncomputable def clsB (Pm:Params) (q:Str×Nat×Nat):Bool:=nsIn (KK Pm) mainGlobals q.1 == some (some (.ref q.2.1)) && makesIn (KK Pm) q.2.1 && findIn (KK Pm) (.ref q.2.1) "__init__" == some (some (.ref q.2.2)) && typeIn (KK Pm) (.ref q.2.2) == some (.type "function") && keepIn (KK Pm) (.ref q.2.1)
theorem ctab_ok (Pm:Params):ctab.all (clsB Pm)=true:=by kernel_rfl
noncomputable def intB (Pm:Params) (q:Str×Int):Bool:=match nsIn (KK Pm) mainGlobals q.1 with
  | some (some (.int i _))=>i == q.2
  | _=>false
theorem itab_ok (Pm:Params):itab.all (intB Pm)=true:=by kernel_rfl
noncomputable def btab:List (Str×Value):=[("len",.builtin "len"),("range",.type "range"),("min",.builtin "min"),("max",.builtin "max"),("abs",.builtin "abs"),("list",.type "list"),("sorted",.builtin "sorted")]
noncomputable def bltB (Pm:Params) (q:Str×Value):Bool:=nsIn (KK Pm) mainGlobals q.1 == some none && bootBuiltins q.1 == some q.2 && q.1 != "__name__"
theorem btab_ok (Pm:Params):btab.all (bltB Pm)=true:=by kernel_rfl
noncomputable def fdOf (Pm:Params) (f:Nat):FuncData:=match (KK Pm).lookup f with
  | some ⟨_,_,.func fd,_⟩=>fd
  | _=>default
noncomputable abbrev Sig:=Arguments×FuncBody×Scope×Addr×List (Str×Addr)×Value×Addr×Option Addr
noncomputable def sigF (fd:FuncData):Sig:=(fd.params,fd.body,fd.scope,fd.globals,fd.closure,fd.kwdefaults,fd.builtins,fd.annotations)
noncomputable def sigS (st:Stmt):Sig:=match st with
  | .FunctionDef _ a b _ _ _ sc _ _ _=>(a,.stmts b,sc,3,[],.none,0,none)
  | _=>default
theorem FT_ok (Pm:Params):FT.map (fun q=>sigF (fdOf Pm q.1))=FT.map (fun q=>sigS q.2):=by kernel_rfl
noncomputable def fnIs (Pm:Params) (q:Nat×Stmt):Bool:=(match (KK Pm).lookup q.1 with
  | some ⟨_,_,.func fd,_⟩=>codeIn (KK Pm) fd.code fd.qualname
  | _=>false)
theorem FT_is (Pm:Params):FT.all (fnIs Pm)=true:=by kernel_rfl
end Mine
end
section
open PySem PySem.W PyProof.Rows PySem.Calls
set_option Elab.async false
set_option linter.all false
set_option autoImplicit false
namespace Mine
inductive AV where
  | none | bool (b:Bool) | int (i:Int) | str (s:Str) | ref (a:Nat) | ext (a:Nat) (l:List Int)
inductive AO where
  | list (xs:List AV) | tup (xs:List AV) | inst (c:Nat) (fs:List (Str×AV)) | dict0
noncomputable abbrev Hp:=List AO
inductive VR (ι:List Addr):Value→AV→Prop
  | none:VR ι .none .none
  | bool (b:Bool):VR ι (.bool b) (.bool b)
  | int (i:Int) (t:Tok):VR ι (.int i t) (.int i)
  | str (s:Str) (t:Tok):VR ι (.str s t) (.str s)
  | ref {a:Addr} {k:Nat} (h:ι[k]?=some a):VR ι (.ref a) (.ref k)
  | ext {a:Addr} {l:List Int}:VR ι (.ref a) (.ext a l)
section
variable {α β γ:Type} {r:γ} {G:Prop}
noncomputable def asRef (v:AV) (f:Nat→Option γ):Option γ:=match v with
  | .ref k=>f k
  | _=>none
noncomputable def asInt (v:AV) (f:Int→Option γ):Option γ:=match v with
  | .int k=>f k
  | _=>none
noncomputable def asBool (v:AV) (f:Bool→Option γ):Option γ:=match v with
  | .bool k=>f k
  | _=>none
noncomputable def one (vs:List AV) (f:AV→Option γ):Option γ:=match vs with
  | []=>none
  | v::r=>if r.isEmpty then f v else none
noncomputable def two (vs:List AV) (f:AV→AV→Option γ):Option γ:=match vs with
  | []=>none
  | v::r=>one r (f v)
noncomputable def atIL (o:Option AO) (f:Nat→List (Str×AV)→Option γ) (g:List AV→Option γ):Option γ:=match o with
  | some (.inst c fs)=>f c fs
  | some (.list xs)=>g xs
  | _=>none
noncomputable def atDict (o:Option AO) (f:Option γ):Option γ:=match o with
  | some .dict0=>f
  | _=>none
noncomputable def asNone (v:AV) (f:Option γ):Option γ:=match v with
  | .none=>f
  | _=>none
noncomputable def atList (o:Option AO) (f:List AV→Option γ):Option γ:=match o with
  | some (.list xs)=>f xs
  | _=>none
noncomputable def atTup (o:Option AO) (f:List AV→Option γ):Option γ:=match o with
  | some (.tup xs)=>f xs
  | _=>none
noncomputable def atInst (o:Option AO) (f:Nat→List (Str×AV)→Option γ):Option γ:=match o with
  | some (.inst c fs)=>f c fs
  | _=>none
noncomputable def oB (o:Option (α×β)) (f:α→β→Option γ):Option γ:=match o with
  | some (x,y)=>f x y
  | none=>none
noncomputable def oRef (o:Option (AV×β)) (f:Nat→β→Option γ):Option γ:=oB o fun v h=>asRef v fun k=>f k h
noncomputable def oInt (o:Option (AV×β)) (f:Int→β→Option γ):Option γ:=oB o fun v h=>asInt v fun k=>f k h
noncomputable def oBool (o:Option (AV×β)) (f:Bool→β→Option γ):Option γ:=oB o fun v h=>asBool v fun k=>f k h
noncomputable def oNone (o:Option (AV×β)) (f:β→Option γ):Option γ:=oB o fun v h=>asNone v (f h)
theorem no_some {P:Prop} {x:γ} (e:none=some x):P:=nomatch e
theorem oB_e {o:Option (α×β)} {f:α→β→Option γ} {x:α} {y:β} {r:Option γ} (h:o=some (x,y)) (e:f x y=r):oB o f=r:=by rw [h]; exact e
theorem oRef_e {o:Option (AV×β)} {f:Nat→β→Option γ} {x:Nat} {y:β} {r:Option γ} (h:o=some (.ref x,y)) (e:f x y=r):oRef o f=r:=by rw [h]; exact e
theorem oInt_e {o:Option (AV×β)} {f:Int→β→Option γ} {x:Int} {y:β} {r:Option γ} (h:o=some (.int x,y)) (e:f x y=r):oInt o f=r:=by rw [h]; exact e
theorem oBool_e {o:Option (AV×β)} {f:Bool→β→Option γ} {x:Bool} {y:β} {r:Option γ} (h:o=some (.bool x,y)) (e:f x y=r):oBool o f=r:=by rw [h]; exact e
theorem oNone_e {o:Option (AV×β)} {f:β→Option γ} {y:β} {r:Option γ} (h:o=some (.none,y)) (e:f y=r):oNone o f=r:=by rw [h]; exact e
theorem atList_e {o:Option AO} {f:List AV→Option γ} {xs:List AV} {r:Option γ} (h:o=some (.list xs)) (e:f xs=r):atList o f=r:=by rw [h]; exact e
theorem atTup_e {o:Option AO} {f:List AV→Option γ} {xs:List AV} {r:Option γ} (h:o=some (.tup xs)) (e:f xs=r):atTup o f=r:=by rw [h]; exact e
theorem atInst_e {o:Option AO} {f:Nat→List (Str×AV)→Option γ} {c:Nat} {fs:List (Str×AV)} {r:Option γ} (h:o=some (.inst c fs)) (e:f c fs=r):atInst o f=r:=by rw [h]; exact e
theorem atIL_e {o:Option AO} {f:Nat→List (Str×AV)→Option γ} {g:List AV→Option γ} {c:Nat} {fs:List (Str×AV)} {r:Option γ} (h:o=some (.inst c fs)) (e:f c fs=r):atIL o f g=r:=by rw [h]; exact e
theorem atIL_l {o:Option AO} {f:Nat→List (Str×AV)→Option γ} {g:List AV→Option γ} {xs:List AV} {r:Option γ} (h:o=some (.list xs)) (e:g xs=r):atIL o f g=r:=by rw [h]; exact e
theorem bind_e {o:Option α} {f:α→Option γ} {x:α} {r:Option γ} (h:o=some x) (e:f x=r):o.bind f=r:=by rw [h]; exact e
theorem map_e {o:Option α} {f:α→γ} {x:α} (h:o=some x):o.map f=some (f x):=by rw [h]; rfl
theorem ifn_e {b:Bool} {x y r:Option γ} (h:b=false) (e:y=r):(if b=true then x else y)=r:=by rw [h]; exact e
theorem ift_e {c:Prop} [Decidable c] {x y r:Option γ} (h:c) (e:x=r):(if c then x else y)=r:=(if_pos h).trans e
theorem iff_e {c:Prop} [Decidable c] {x y r:Option γ} (h:¬c) (e:y=r):(if c then x else y)=r:=(if_neg h).trans e
theorem asRef_i {v:AV} {f:Nat→Option γ} (e:asRef v f=some r) (K:∀ k,v=.ref k→f k=some r→G):G:=by
  cases v <;> first | exact K _ rfl e | exact no_some e
theorem asInt_i {v:AV} {f:Int→Option γ} (e:asInt v f=some r) (K:∀ k,v=.int k→f k=some r→G):G:=by
  cases v <;> first | exact K _ rfl e | exact no_some e
theorem asBool_i {v:AV} {f:Bool→Option γ} (e:asBool v f=some r) (K:∀ k,v=.bool k→f k=some r→G):G:=by
  cases v <;> first | exact K _ rfl e | exact no_some e
theorem atList_i {o:Option AO} {f:List AV→Option γ} (e:atList o f=some r) (K:∀ xs,o=some (.list xs)→f xs=some r→G):G:=by
  cases o with
  | none=>exact no_some e
  | some o=>cases o <;> first | exact K _ rfl e | exact no_some e
theorem atTup_i {o:Option AO} {f:List AV→Option γ} (e:atTup o f=some r) (K:∀ xs,o=some (.tup xs)→f xs=some r→G):G:=by
  cases o with
  | none=>exact no_some e
  | some o=>cases o <;> first | exact K _ rfl e | exact no_some e
theorem atInst_i {o:Option AO} {f:Nat→List (Str×AV)→Option γ} (e:atInst o f=some r) (K:∀ c fs,o=some (.inst c fs)→f c fs=some r→G):G:=by
  cases o with
  | none=>exact no_some e
  | some o=>cases o <;> first | exact K _ _ rfl e | exact no_some e
theorem atDict_i {o:Option AO} {f:Option γ} (e:atDict o f=some r) (K:o=some .dict0→f=some r→G):G:=by
  cases o with
  | none=>exact no_some e
  | some o=>cases o <;> first | exact K rfl e | exact no_some e
theorem atIL_i {o:Option AO} {f:Nat→List (Str×AV)→Option γ} {g:List AV→Option γ} (e:atIL o f g=some r) (K:∀ c fs,o=some (.inst c fs)→f c fs=some r→G) (K':∀ xs,o=some (.list xs)→g xs=some r→G):G:=by
  cases o with
  | none=>exact no_some e
  | some o=>cases o <;> first | exact K _ _ rfl e | exact K' _ rfl e | exact no_some e
theorem one_i {vs:List AV} {f:AV→Option γ} (e:one vs f=some r) (K:∀ v,vs=[v]→f v=some r→G):G:=by
  cases vs with
  | nil=>exact no_some e
  | cons v l=>cases l with
    | nil=>exact K v rfl e
    | cons _ _=>exact no_some e
theorem two_i {vs:List AV} {f:AV→AV→Option γ} (e:two vs f=some r) (K:∀ v u,vs=[v,u]→f v u=some r→G):G:=by
  cases vs with
  | nil=>exact no_some e
  | cons v l=>exact one_i e fun u q e=>K v u (congrArg (v::·) q) e
theorem oB_i {o:Option (α×β)} {f:α→β→Option γ} (e:oB o f=some r) (K:∀ x y,o=some (x,y)→f x y=some r→G):G:=by
  cases o with
  | none=>exact no_some e
  | some o=>exact K _ _ rfl e
theorem oRef_i {o:Option (AV×β)} {f:Nat→β→Option γ} (e:oRef o f=some r) (K:∀ x y,o=some (.ref x,y)→f x y=some r→G):G:=
  oB_i e fun _ y h e=>asRef_i e fun x q e=>K x y (q ▸ h) e
theorem oInt_i {o:Option (AV×β)} {f:Int→β→Option γ} (e:oInt o f=some r) (K:∀ x y,o=some (.int x,y)→f x y=some r→G):G:=
  oB_i e fun _ y h e=>asInt_i e fun x q e=>K x y (q ▸ h) e
theorem oBool_i {o:Option (AV×β)} {f:Bool→β→Option γ} (e:oBool o f=some r) (K:∀ x y,o=some (.bool x,y)→f x y=some r→G):G:=
  oB_i e fun _ y h e=>asBool_i e fun x q e=>K x y (q ▸ h) e
theorem ite_i {c:Prop} [Decidable c] {x y:Option γ} (e:(if c then x else y)=some r) (K:c→x=some r→G) (K':¬c→y=some r→G):G:=by
  by_cases h:c
  · rw [if_pos h] at e; exact K h e
  · rw [if_neg h] at e; exact K' h e
theorem asNone_i {v:AV} {f:Option γ} (e:asNone v f=some r) (K:v=.none→f=some r→G):G:=by
  cases v <;> first | exact K rfl e | exact no_some e
theorem oNone_i {o:Option (AV×β)} {f:β→Option γ} (e:oNone o f=some r) (K:∀ y,o=some (.none,y)→f y=some r→G):G:=
  oB_i e fun _ y h e=>asNone_i e fun q e=>K y (q ▸ h) e
theorem if_i {c:Prop} [Decidable c] {x:Option γ} (e:(if c then x else none)=some r) (K:c→x=some r→G):G:=by
  by_cases h:c
  · rw [if_pos h] at e; exact K h e
  · rw [if_neg h] at e; exact no_some e
theorem ifn_i {c:Prop} [Decidable c] {x:Option γ} (e:(if c then none else x)=some r) (K:¬c→x=some r→G):G:=by
  by_cases h:c
  · rw [if_pos h] at e; exact no_some e
  · rw [if_neg h] at e; exact K h e
theorem bind_i {o:Option α} {f:α→Option γ} (e:o.bind f=some r) (K:∀ x,o=some x→f x=some r→G):G:=by
  cases o with
  | none=>exact no_some e
  | some x=>exact K x rfl e
theorem map_i {o:Option α} {f:α→γ} (e:o.map f=some r) (K:∀ x,o=some x→f x=r→G):G:=by
  cases o with
  | none=>exact no_some e
  | some x=>exact K x rfl (Option.some.inj e)
end
@[elab_as_elim] theorem vR {ι:List Addr} {v:Value} {k:Nat} {G:Value→Prop} (q:VR ι v (.ref k)) (K:∀ a,ι[k]?=some a→G (.ref a)):G v:=by
  cases q with | ref h=>exact K _ h
@[elab_as_elim] theorem vI {ι:List Addr} {v:Value} {k:Int} {G:Value→Prop} (q:VR ι v (.int k)) (K:∀ t,G (.int k t)):G v:=by
  cases q; exact K _
@[elab_as_elim] theorem vB {ι:List Addr} {v:Value} {k:Bool} {G:Value→Prop} (q:VR ι v (.bool k)) (K:G (.bool k)):G v:=by
  cases q; exact K
@[elab_as_elim] theorem vN {ι:List Addr} {v:Value} {G:Value→Prop} (q:VR ι v .none) (K:G .none):G v:=by
  cases q; exact K
section
variable {ι:List Addr} {v:Value} {x:AV} {γ:Type} {r:γ} {G:Value→Prop}
@[elab_as_elim] theorem vRE {f:Nat→Option γ} (q:VR ι v x) (e:asRef x f=some r) (K:∀ k a,ι[k]?=some a→f k=some r→G (.ref a)):G v:=
  asRef_i e fun k h e=>vR (G:=G) (h ▸ q) fun a h=>K k a h e
@[elab_as_elim] theorem vIE {f:Int→Option γ} (q:VR ι v x) (e:asInt x f=some r) (K:∀ k t,f k=some r→G (.int k t)):G v:=
  asInt_i e fun k h e=>vI (G:=G) (h ▸ q) fun t=>K k t e
@[elab_as_elim] theorem vNE {f:Option γ} (q:VR ι v x) (e:asNone x f=some r) (K:f=some r→G .none):G v:=by
  cases q <;> first | exact K e | exact no_some e
end
structure VRs (ι:List Addr) (vs:List Value) (xs:List AV):Prop where
  len:vs.length=xs.length
  get:∀ (i:Nat) (v:Value) (x:AV),vs[i]?=some v→xs[i]?=some x→VR ι v x
theorem pre_get {ι ι':List Addr} (p:ι<+:ι') {k:Nat} {a:Addr} (h:ι[k]?=some a):ι'[k]?=some a:=by
  obtain ⟨t,rfl⟩:=p
  rw [List.getElem?_append_left (List.getElem?_eq_some_iff.mp h).1]; exact h
theorem VR.mono {ι ι':List Addr} {v:Value} {x:AV} (r:VR ι v x) (p:ι<+:ι'):VR ι' v x:=by
  cases r with
  | none=>exact .none
  | bool b=>exact .bool b
  | int i t=>exact .int i t
  | str s t=>exact .str s t
  | ref h=>exact .ref (pre_get p h)
  | ext=>exact .ext
theorem VRs.mono {ι ι':List Addr} {vs:List Value} {xs:List AV} (r:VRs ι vs xs) (p:ι<+:ι'):VRs ι' vs xs:=
  ⟨r.len,fun i v x h k=>(r.get i v x h k).mono p⟩
theorem VRs.nil {ι:List Addr}:VRs ι [] []:=⟨rfl,fun i v x h=>by simp at h⟩
theorem VRs.cons {ι:List Addr} {v:Value} {x:AV} {vs:List Value} {xs:List AV} (r:VR ι v x) (rs:VRs ι vs xs):VRs ι (v::vs) (x::xs):=
  ⟨by simp [rs.len],fun i v' x' h k=>by
    cases i with
    | zero=>simp at h k; subst h; subst k; exact r
    | succ i=>exact rs.get i v' x' (by simpa using h) (by simpa using k)⟩
theorem VRs.head {ι:List Addr} {v:Value} {x:AV} {vs:List Value} {xs:List AV} (r:VRs ι (v::vs) (x::xs)):VR ι v x:=r.get 0 _ _ rfl rfl
theorem VRs.tail {ι:List Addr} {v:Value} {x:AV} {vs:List Value} {xs:List AV} (r:VRs ι (v::vs) (x::xs)):VRs ι vs xs:=
  ⟨by simpa using r.len,fun i v' x' h k=>r.get (i+1) v' x' (by simpa using h) (by simpa using k)⟩
theorem VRs.append {ι:List Addr} {vs ws:List Value} {xs ys:List AV} (r:VRs ι vs xs) (q:VRs ι ws ys):VRs ι (vs++ws) (xs++ys):=by
  refine ⟨by simp [r.len,q.len],fun i v x h k=>?_⟩
  by_cases hi:i<vs.length
  · rw [List.getElem?_append_left hi] at h
    rw [List.getElem?_append_left (r.len ▸ hi)] at k
    exact r.get i v x h k
  · rw [List.getElem?_append_right (Nat.not_lt.mp hi)] at h
    rw [List.getElem?_append_right (r.len ▸ Nat.not_lt.mp hi),← r.len] at k
    exact q.get _ v x h k
theorem VRs.take {ι:List Addr} {vs:List Value} {xs:List AV} (r:VRs ι vs xs) (n:Nat):VRs ι (vs.take n) (xs.take n):=
  ⟨by simp [r.len],fun i v x h k=>by
    rw [List.getElem?_take] at h k
    split at h
    · rw [if_pos (by assumption)] at k; exact r.get i v x h k
    · cases h⟩
theorem VRs.drop {ι:List Addr} {vs:List Value} {xs:List AV} (r:VRs ι vs xs) (n:Nat):VRs ι (vs.drop n) (xs.drop n):=
  ⟨by simp [r.len],fun i v x h k=>by rw [List.getElem?_drop] at h k; exact r.get _ v x h k⟩
theorem VRs.set {ι:List Addr} {vs:List Value} {xs:List AV} {v:Value} {x:AV} (r:VRs ι vs xs) (q:VR ι v x) (n:Nat):VRs ι (vs.set n v) (xs.set n x):=
  ⟨by simp [r.len],fun i v' x' h k=>by
    rw [List.getElem?_set] at h k
    by_cases e:n=i
    · subst e
      rw [if_pos rfl] at h k
      split at h
      · rw [if_pos (by rw [← r.len]; assumption)] at k; cases h; cases k; exact q
      · cases h
    · rw [if_neg e] at h k; exact r.get i v' x' h k⟩
theorem VRs.at {ι:List Addr} {vs:List Value} {xs:List AV} (r:VRs ι vs xs) {i:Nat} {x:AV} (h:xs[i]?=some x):∃ v,vs[i]?=some v∧VR ι v x:=by
  have hi:i<xs.length:=(List.getElem?_eq_some_iff.mp h).1
  have:vs[i]?=some (vs[i]'(by rw [r.len]; exact hi)):=List.getElem?_eq_getElem _
  exact ⟨_,this,r.get i _ _ this h⟩
theorem VRs.replicate {ι:List Addr} {v:Value} {x:AV} (q:VR ι v x) (n:Nat):VRs ι (List.replicate n v) (List.replicate n x):=
  ⟨by simp,fun i v' x' h k=>by
    rw [List.getElem?_replicate] at h k
    split at h
    · rw [if_pos (by assumption)] at k; cases h; cases k; exact q
    · cases h⟩
inductive FRs (P:Params) (ι:List Addr):List DictEntry→List (Str×AV)→Prop
  | nil:FRs P ι [] []
  | cons {x:Str} {t:Tok} {v:Value} {a:AV} {es:List DictEntry} {fs:List (Str×AV)}:VR ι v a→FRs P ι es fs→FRs P ι (⟨PyData.keyHash P x,.str x t,v⟩::es) ((x,a)::fs)
theorem FRs.mono {P:Params} {ι ι':List Addr} {es:List DictEntry} {fs:List (Str×AV)} (r:FRs P ι es fs) (p:ι<+:ι'):FRs P ι' es fs:=by
  induction r with
  | nil=>exact .nil
  | cons h _ ih=>exact .cons (h.mono p) ih
theorem FRs.len {P:Params} {ι:List Addr} {es:List DictEntry} {fs:List (Str×AV)} (r:FRs P ι es fs):es.length=fs.length:=by
  induction r with
  | nil=>rfl
  | cons _ _ ih=>simp [ih]
noncomputable def fget (x:Str) (fs:List (Str×AV)):Option AV:=(fs.find? fun p=>p.1 == x).map (·.2)
noncomputable def fput (x:Str) (v:AV):List (Str×AV)→List (Str×AV)
  | []=>[(x,v)]
  | p::r=>if p.1 == x then (p.1,v)::r else p::fput x v r
theorem getL_cons {x y:Str} {hh:Int} {t:Tok} {w:Value} {es:List DictEntry}:getL x (⟨hh,.str y t,w⟩::es)=if (y == x)=true then some (some w) else getL x es:=by
  unfold getL
  rw [List.find?_cons]
  show (match (match (y == x) with | true=>some (⟨hh,.str y t,w⟩:DictEntry) | false=>es.find? (·.key.isStr x)) with | some e=>some (some e.val) | none=>if (DictEntry.refKey ⟨hh,.str y t,w⟩ || es.any (·.refKey))=true then none else some none)=_
  cases y == x with
  | true=>rfl
  | false=>rfl
theorem fget_cons {x y:Str} {a:AV} {fs:List (Str×AV)}:fget x ((y,a)::fs)=if (y == x)=true then some a else fget x fs:=by
  unfold fget
  rw [List.find?_cons]
  cases h:y == x with
  | true=>simp [h]
  | false=>simp [h]
theorem FRs.get {P:Params} {ι:List Addr} {es:List DictEntry} {fs:List (Str×AV)} (r:FRs P ι es fs) {x:Str} {v:AV} (h:fget x fs=some v):∃ v',getL x es=some (some v')∧VR ι v' v:=by
  induction r with
  | nil=>simp [fget] at h
  | @cons y t w a es fs q rs ih=>
    rw [fget_cons] at h
    rw [getL_cons]
    cases e:y == x with
    | true=>rw [e] at h; simp at h; subst h; exact ⟨w,rfl,q⟩
    | false=>rw [e] at h; exact ih h
theorem FRs.getN {P:Params} {ι:List Addr} {es:List DictEntry} {fs:List (Str×AV)} (r:FRs P ι es fs) {x:Str} (h:fget x fs=none):getL x es=some none:=by
  induction r with
  | nil=>rfl
  | @cons y t w a es fs q rs ih=>
    rw [fget_cons] at h
    rw [getL_cons]
    cases e:y == x with
    | true=>rw [e] at h; simp at h
    | false=>rw [e] at h; exact ih h
theorem FRs.getS {P:Params} {ι:List Addr} {es:List DictEntry} {fs:List (Str×AV)} (r:FRs P ι es fs) (x:Str):(getL x es).isSome=true:=by
  cases h:fget x fs with
  | none=>rw [r.getN h]; rfl
  | some v=>obtain ⟨v',e,_⟩:=r.get h; rw [e]; rfl
theorem FRs.put {P:Params} {ι:List Addr} {es:List DictEntry} {fs:List (Str×AV)} (r:FRs P ι es fs) {x:Str} {t:Tok} {v':Value} {v:AV} (q:VR ι v' v) :
    FRs P ι (putL x (PyData.keyHash P x) (.str x t) v' es) (fput x v fs):=by
  induction r with
  | nil=>exact .cons q .nil
  | @cons y u w a es fs q' rs ih=>
    show FRs P ι (if (Value.str y u).isStr x then _ else _) (if y == x then _ else _)
    show FRs P ι (if (y == x)=true then _ else _) (if (y == x)=true then _ else _)
    cases e:y == x with
    | true=>simp; exact .cons q rs
    | false=>simp; exact .cons q' ih
end Mine
end
section
open PySem PySem.W PyProof.Rows PySem.Calls
set_option Elab.async false
set_option linter.all false
set_option autoImplicit false
namespace Mine
noncomputable abbrev tupOf (its:Array Value) (n:Nat):Obj:={ cls:=.type "tuple",data:=.seq its n }
noncomputable def OR (P:Params) (h:Heap) (ι:List Addr) (a:Addr) (d:Option Addr):AO→Prop
  | .list xs=>d=none∧∃ vs n,h.get? a=some (listOf (List.toArray vs) n)∧VRs ι vs xs
  | .tup xs=>d=none∧∃ vs n,h.get? a=some (tupOf (List.toArray vs) n)∧VRs ι vs xs
  | .inst c fs=>∃ dx es n,d=some dx∧h.get? a=some (instObj c dx)∧h.get? dx=some (dictOf es n)∧FRs P ι es fs∧∀ p∈fs,attrB P c p.1=true
  | .dict0=>d=none∧h.get? a=some (dictOf [] 0)
theorem OR.mono {P:Params} {h h':Heap} {ι ι':List Addr} {a:Addr} {d:Option Addr} {o:AO} (r:OR P h ι a d o) (p:ι<+:ι')
    (ka:∀ x,h.get? a=some x→h'.get? a=some x) (kd:∀ dx,d=some dx→∀ x,h.get? dx=some x→h'.get? dx=some x):OR P h' ι' a d o:=by
  cases o with
  | list xs=>obtain ⟨e,vs,n,g,q⟩:=r; exact ⟨e,vs,n,ka _ g,q.mono p⟩
  | tup xs=>obtain ⟨e,vs,n,g,q⟩:=r; exact ⟨e,vs,n,ka _ g,q.mono p⟩
  | inst c fs=>obtain ⟨dx,es,n,e,g1,g2,q,t⟩:=r; exact ⟨dx,es,n,e,ka _ g1,kd _ e _ g2,q.mono p,t⟩
  | dict0=>obtain ⟨e,g⟩:=r; exact ⟨e,ka _ g⟩
structure Conc (P:Params) (g h:Heap) (ι:List Addr) (δ:List (Option Addr)) (H:Hp):Prop where
  keep:∀ (b:Addr) (o:Obj),g.get? b=some o→h.get? b=some o
  li:ι.length=H.length
  ld:δ.length=H.length
  gi:∀ (k:Nat) (a:Addr),ι[k]?=some a→g.get? a=none
  gd:∀ (k:Nat) (d:Addr),δ[k]?=some (some d)→g.get? d=none
  ii:∀ (j k:Nat) (a:Addr),ι[j]?=some a→ι[k]?=some a→j=k
  dd:∀ (j k:Nat) (d:Addr),δ[j]?=some (some d)→δ[k]?=some (some d)→j=k
  di:∀ (j k:Nat) (a:Addr),ι[j]?=some a→δ[k]?=some (some a)→False
  ob:∀ (k:Nat) (o:AO),H[k]?=some o→∃ a d,ι[k]?=some a∧δ[k]?=some d∧OR P h ι a d o
section
variable {P:Params} {g g' h h':Heap} {ι:List Addr} {δ:List (Option Addr)} {H:Hp}
theorem Conc.grow (C:Conc P g h ι δ H) (k:∀ (b:Addr) (o:Obj),h.get? b=some o→h'.get? b=some o):Conc P g h' ι δ H:=
  { C with keep:=fun b o e=>k _ _ (C.keep b o e),ob:=fun j o e=>let ⟨a,d,e1,e2,r⟩:=C.ob j o e; ⟨a,d,e1,e2,r.mono (List.prefix_refl _) (k _) (fun _ _=>k _)⟩ }
theorem Conc.weaken (C:Conc P g h ι δ H) (k:∀ (b:Addr) (o:Obj),g'.get? b=some o→g.get? b=some o):Conc P g' h ι δ H:=by
  have no:∀ a,g.get? a=none→g'.get? a=none:=fun a e=>by
    cases q:g'.get? a with
    | none=>rfl
    | some o=>rw [k _ _ q] at e; cases e
  exact { C with keep:=fun b o e=>C.keep b o (k b o e),gi:=fun j a e=>no _ (C.gi j a e),gd:=fun j d e=>no _ (C.gd j d e) }
noncomputable def owned (ι:List Addr) (δ:List (Option Addr)):List Addr:=ι++δ.filterMap id
theorem mem_owned {a:Addr}:a∈owned ι δ↔(∃ k:Nat,ι[k]?=some a)∨∃ k:Nat,δ[k]?=some (some a):=by
  unfold owned
  rw [List.mem_append,List.mem_filterMap]
  constructor
  · rintro (m | ⟨d,m,e⟩)
    · exact .inl (List.mem_iff_getElem?.mp m)
    · obtain ⟨k,hk⟩:=List.mem_iff_getElem?.mp m
      exact .inr ⟨k,by rw [hk]; exact congrArg some e⟩
  · rintro (⟨k,e⟩ | ⟨k,e⟩)
    · exact .inl (List.mem_iff_getElem?.mpr ⟨k,e⟩)
    · exact .inr ⟨some a,List.mem_iff_getElem?.mpr ⟨k,e⟩,rfl⟩
noncomputable def frz (h:Heap) (ι:List Addr) (δ:List (Option Addr)):Heap:=hideAll h (owned ι δ)
theorem Conc.notOwned (C:Conc P g h ι δ H) {a:Addr} {o:Obj} (e:g.get? a=some o):a ∉ owned ι δ:=fun m=>by
  rcases mem_owned.mp m with ⟨k,q⟩ | ⟨k,q⟩
  · rw [C.gi k a q] at e; cases e
  · rw [C.gd k a q] at e; cases e
theorem Conc.frz (C:Conc P g h ι δ H):Conc P (frz h ι δ) h ι δ H:=
  { C with keep:=fun b o e=>of_hideAll _ e,gi:=fun k a e=>hideAll_none _ (mem_owned.mpr (.inl ⟨k,e⟩)),gd:=fun k d e=>hideAll_none _ (mem_owned.mpr (.inr ⟨k,e⟩)) }
theorem frz_get {a:Addr} {o:Obj} (e:h.get? a=some o) (n:a ∉ owned ι δ):(frz h ι δ).get? a=some o:=hideAll_get _ e n
theorem Conc.frz_keep (C:Conc P g h ι δ H):∀ (b:Addr) (o:Obj),g.get? b=some o→(Mine.frz h ι δ).get? b=some o:=fun b o e=>frz_get (C.keep b o e) (C.notOwned e)
theorem snoc_get {α:Type} {l:List α} {x y:α} {j:Nat} (e:(l++[x])[j]?=some y):l[j]?=some y∨(j=l.length∧y=x):=by
  by_cases q:j<l.length
  · rw [List.getElem?_append_left q] at e; exact .inl e
  · obtain ⟨h,e⟩:=List.getElem?_eq_some_iff.mp e
    rw [List.length_append] at h
    have z:j=l.length:=Nat.le_antisymm (Nat.le_of_lt_succ h) (Nat.not_lt.mp q)
    subst z
    rw [List.getElem_append_right (Nat.le_refl _)] at e
    exact .inr ⟨rfl,by rw [← e]; simp⟩
theorem snoc_old {α:Type} {l:List α} {x y:α} {j:Nat} (e:l[j]?=some y):(l++[x])[j]?=some y:=by
  rw [List.getElem?_append_left (List.getElem?_eq_some_iff.mp e).1]; exact e
theorem snoc_new {α:Type} {l:List α} {x:α} {n:Nat} (h:l.length=n):(l++[x])[n]?=some x:=by subst h; simp
theorem Conc.add (C:Conc P g h ι δ H) {a:Addr} {d:Option Addr} {o:AO} (fresh:h.get? a=none) (k:∀ (b:Addr) (o:Obj),h.get? b=some o→h'.get? b=some o) (fd:∀ x,d=some x→h.get? x=none∧a≠x)
    (own:∀ (j:Nat) (b:Addr),ι[j]?=some b→b≠a∧d≠some b) (own':∀ (j:Nat) (x:Addr),δ[j]?=some (some x)→x≠a∧d≠some x)
    (r:OR P h' (ι++[a]) a d o):Conc P g h' (ι++[a]) (δ++[d]) (H++[o]):=by
  have ng:∀ x,h.get? x=none→g.get? x=none:=fun x fr=>by
    cases q:g.get? x with
    | none=>rfl
    | some y=>rw [C.keep _ _ q] at fr; cases fr
  refine { keep:=(C.grow k).keep,li:=by rw [List.length_append,List.length_append,C.li]; rfl,ld:=by rw [List.length_append,List.length_append,C.ld]; rfl,gi:=fun j b e=>?_,gd:=fun j x e=>?_,ii:=fun j l b e f=>?_,dd:=fun j l x e f=>?_,di:=fun j l b e f=>?_,ob:=fun j x e=>?_ }
  · rcases snoc_get e with e | ⟨_,rfl⟩
    · exact C.gi j b e
    · exact ng _ fresh
  · rcases snoc_get e with e | ⟨_,e⟩
    · exact C.gd j x e
    · exact ng _ (fd x e.symm).1
  · rcases snoc_get e with e | ⟨e1,e⟩ <;> rcases snoc_get f with f | ⟨f1,f⟩
    · exact C.ii j l b e f
    · exact absurd f (own j b e).1
    · exact absurd e (own l b f).1
    · exact e1.trans f1.symm
  · rcases snoc_get e with e | ⟨e1,e⟩ <;> rcases snoc_get f with f | ⟨f1,f⟩
    · exact C.dd j l x e f
    · exact absurd f.symm (own' j x e).2
    · exact absurd e.symm (own' l x f).2
    · exact e1.trans f1.symm
  · rcases snoc_get e with e | ⟨_,e⟩ <;> rcases snoc_get f with f | ⟨_,f⟩
    · exact C.di j l b e f
    · exact absurd f.symm (own j b e).2
    · exact absurd e (own' l b f).1
    · exact (fd b f.symm).2 e.symm
  · rcases snoc_get e with e | ⟨rfl,rfl⟩
    · obtain ⟨b,y,e1,e2,r⟩:=(C.grow k).ob j x e
      exact ⟨b,y,snoc_old e1,snoc_old e2,r.mono (List.prefix_append _ _) (fun _ e=>e) (fun _ _ _ e=>e)⟩
    · exact ⟨a,d,snoc_new C.li,snoc_new C.ld,r⟩
theorem Conc.alloc (C:Conc P g h ι δ H) {a:Addr} {o:AO} (fresh:h.get? a=none) (k:∀ (b:Addr) (o:Obj),h.get? b=some o→h'.get? b=some o)
    (own:∀ (j:Nat) (b:Addr),ι[j]?=some b→b≠a) (own':∀ (j:Nat) (d:Addr),δ[j]?=some (some d)→d≠a)
    (r:OR P h' (ι++[a]) a none o):Conc P g h' (ι++[a]) (δ++[none]) (H++[o]):=
  C.add fresh k (fun _ q=>nomatch q) (fun j b e=>⟨own j b e,fun q=>nomatch q⟩) (fun j b e=>⟨own' j b e,fun q=>nomatch q⟩) r
theorem Conc.allocI (C:Conc P g h ι δ H) {a d:Addr} {c:Nat} (fresh:h.get? a=none) (freshd:h.get? d=none) (hne:a≠d) (k:∀ (b:Addr) (o:Obj),h.get? b=some o→h'.get? b=some o)
    (own:∀ (j:Nat) (b:Addr),ι[j]?=some b→b≠a∧b≠d) (own':∀ (j:Nat) (e:Addr),δ[j]?=some (some e)→e≠a∧e≠d)
    (ha:h'.get? a=some (instObj c d)) (hd:h'.get? d=some (dictOf [] 0)):Conc P g h' (ι++[a]) (δ++[some d]) (H++[.inst c []]):=
  C.add fresh k (fun x q=>Option.some.inj q ▸ ⟨freshd,hne⟩) (fun j b e=>⟨(own j b e).1,fun q=>(own j b e).2 (Option.some.inj q).symm⟩) (fun j b e=>⟨(own' j b e).1,fun q=>(own' j b e).2 (Option.some.inj q).symm⟩) ⟨d,[],0,rfl,ha,hd,.nil,fun _ hp=>nomatch hp⟩
theorem Conc.turnG (C:Conc P g h ι δ H) {k:Nat} {o':AO} {a x:Addr} {d:Option Addr} (hi:ι[k]?=some a) (hd:δ[k]?=some d) (hx:x=a∨d=some x)
    (kp:∀ (b:Addr) (y:Obj),b≠x→(b ∉ owned ι δ→g.get? b=some y)→h.get? b=some y→h'.get? b=some y) (r:OR P h' ι a d o'):Conc P g h' ι δ (H.set k o'):=by
  have ng:g.get? x=none:=by
    rcases hx with rfl | rfl
    · exact C.gi _ _ hi
    · exact C.gd _ _ hd
  refine { C with keep:=fun b y e=>kp b y (fun q=>by rw [q,ng] at e; cases e) (fun _=>e) (C.keep b y e),li:=C.li.trans List.length_set.symm,ld:=C.ld.trans List.length_set.symm,ob:=fun j y e=>?_ }
  by_cases q:k=j
  · subst q
    rw [List.getElem?_set_self (by obtain ⟨h,_⟩:=List.getElem?_eq_some_iff.mp e; rwa [List.length_set] at h)] at e
    exact ⟨a,d,hi,hd,Option.some.inj e ▸ r⟩
  · rw [List.getElem?_set_ne q] at e
    obtain ⟨b,y',e1,e2,r'⟩:=C.ob j y e
    refine ⟨b,y',e1,e2,r'.mono (List.prefix_refl _) (fun z=>kp b z ?_ fun n=>absurd (mem_owned.mpr (.inl ⟨_,e1⟩)) n) (fun dx ed z=>kp dx z ?_ fun n=>absurd (mem_owned.mpr (.inr ⟨_,ed ▸ e2⟩)) n)⟩
    · rintro rfl
      rcases hx with rfl | rfl
      · exact q (C.ii _ _ _ hi e1)
      · exact C.di _ _ _ e1 hd
    · rintro rfl
      subst ed
      rcases hx with rfl | rfl
      · exact C.di _ _ _ hi e2
      · exact q (C.dd _ _ _ hd e2)
theorem Conc.turn (C:Conc P g h ι δ H) {k:Nat} {o':AO} {a x:Addr} {d:Option Addr} (hi:ι[k]?=some a) (hd:δ[k]?=some d) (hx:x=a∨d=some x)
    (kp:∀ (b:Addr) (y:Obj),b≠x→h.get? b=some y→h'.get? b=some y) (r:OR P h' ι a d o'):Conc P g h' ι δ (H.set k o'):=C.turnG hi hd hx (fun b y n _=>kp b y n) r
theorem Conc.turnL {L:Addr} (C:Conc P g h ι δ H) (hL:L ∉ owned ι δ) (gL:g.get? L=none) {k:Nat} {o':AO} {a x:Addr} {d:Option Addr} (hi:ι[k]?=some a) (hd:δ[k]?=some d) (hx:x=a∨d=some x)
    (kp:∀ (b:Addr) (y:Obj),b≠x→b≠L→h.get? b=some y→h'.get? b=some y) (r:OR P h' ι a d o'):Conc P g h' ι δ (H.set k o'):=C.turnG hi hd hx (fun b y n m=>kp b y n fun q=>by subst q; rw [m hL] at gL; cases gL) r
end
end Mine
end
section
open PySem PySem.W PyProof.Rows PySem.Calls
set_option Elab.async false
set_option linter.all false
set_option autoImplicit false
set_option maxRecDepth 10000
namespace Mine
noncomputable abbrev pg:Program:=PySem.Challenge.pw_pq0294_01
structure Rest (s s':Shared):Prop where
  gens:s'.gens=s.gens
  os:s'.os=s.os
theorem Rest.refl (s:Shared):Rest s s:=⟨rfl,rfl⟩
theorem Rest.trans {a b c:Shared} (x:Rest a b) (y:Rest b c):Rest a c:=⟨y.1.trans x.1,y.2.trans x.2⟩
noncomputable def Ret (Pm:Params) (g:Heap) (s:Shared) (ι:List Addr) (H':Hp) (v:AV) (Q:Value→Shared→Prop):Prop:=
  ∀ (s':Shared) (ι':List Addr) (δ':List (Option Addr)) (v':Value),Conc Pm g s'.heap ι' δ' H'→ι<+:ι'→VR ι' v' v→Rest s s'→Q v' s'
section
variable {Pm:Params} {w:World} {A:Around} {E:Value→Shared→Prop} {g:Heap} {s:Shared} {ι:List Addr} {δ:List (Option Addr)} {H H':Hp} {v:AV} {Q:Value→Shared→Prop}
theorem Ret.here (K:Ret Pm g s ι H v Q) (C:Conc Pm g s.heap ι δ H) {v':Value} (r:VR ι v' v) {t:Nat}:Q v' { s with toks:=t }:=
  K _ ι δ v' C (List.prefix_refl _) r ⟨rfl,rfl⟩
theorem Ret.here' (K:Ret Pm g s ι H v Q) (C:Conc Pm g s.heap ι δ H) {v':Value} (r:VR ι v' v):Q v' s:=
  K _ ι δ v' C (List.prefix_refl _) r ⟨rfl,rfl⟩
theorem Ret.eqs {b:AV} {H1:Hp} (K:Ret Pm g s ι H' v Q) (e:some (b,H1)=some (v,H')):Ret Pm g s ι H1 b Q:=by cases e; exact K
theorem Ret.eqp {b:AV} {H1:Hp} (K:Ret Pm g s ι H' v Q) (e:(b,H1)=(v,H')):Ret Pm g s ι H1 b Q:=by cases e; exact K
theorem Ret.eqb {a b:Bool} {H1:Hp} {Q:Bool→Shared→Prop} (K:Ret Pm g s ι H' .none (fun _ s'=>Q b s')) (e:some (AV.bool a,H1)=some (.bool b,H')):Ret Pm g s ι H1 .none (fun _ s'=>Q a s'):=by cases e; exact K
theorem OR.self {P:Params} {h:Heap} {a:Addr} {d:Option Addr} {o:AO} (r:OR P h ι a d o):∃ x,h.get? a=some x:=by
  cases o with
  | list _=>obtain ⟨_,_,_,x,_⟩:=r; exact ⟨_,x⟩
  | tup _=>obtain ⟨_,_,_,x,_⟩:=r; exact ⟨_,x⟩
  | inst _ _=>obtain ⟨_,_,_,_,x,_⟩:=r; exact ⟨_,x⟩
  | dict0=>exact ⟨_,r.2⟩
theorem OR.dict {P:Params} {h:Heap} {a d:Addr} {o:AO} (r:OR P h ι a (some d) o):∃ x,h.get? d=some x:=by
  cases o with
  | inst _ _=>obtain ⟨_,_,_,x,_,y,_⟩:=r; cases x; exact ⟨_,y⟩
  | _=>exact nomatch r.1
theorem Conc.get_i (C:Conc Pm g s.heap ι δ H) {k:Nat} {a:Addr} (e:ι[k]?=some a):∃ o,s.heap.get? a=some o:=by
  obtain ⟨b,d,e1,_,r⟩:=C.ob k _ (List.getElem?_eq_getElem (C.li ▸ (List.getElem?_eq_some_iff.mp e).1))
  rw [e] at e1
  exact Option.some.inj e1 ▸ r.self
theorem Conc.get_d (C:Conc Pm g s.heap ι δ H) {k:Nat} {d:Addr} (e:δ[k]?=some (some d)):∃ o,s.heap.get? d=some o:=by
  obtain ⟨b,d',_,e1,r⟩:=C.ob k _ (List.getElem?_eq_getElem (C.ld ▸ (List.getElem?_eq_some_iff.mp e).1))
  rw [e] at e1
  cases e1
  exact r.dict
theorem Conc.alive (C:Conc Pm g s.heap ι δ H) {k:Nat} {a:Addr} (e:ι[k]?=some a):a<s.heap.objs.size:=let ⟨_,h⟩:=C.get_i e; Heap.lt_size h
theorem Conc.aliveD (C:Conc Pm g s.heap ι δ H) {k:Nat} {d:Addr} (e:δ[k]?=some (some d)):d<s.heap.objs.size:=let ⟨_,h⟩:=C.get_d e; Heap.lt_size h
theorem Conc.noSize (C:Conc Pm g s.heap ι δ H):s.heap.objs.size ∉ owned ι δ:=fun z=>by
  rcases mem_owned.mp z with ⟨j,z⟩ | ⟨j,z⟩
  · exact absurd (C.alive z) (Nat.lt_irrefl _)
  · exact absurd (C.aliveD z) (Nat.lt_irrefl _)
theorem Conc.gNone (C:Conc Pm g s.heap ι δ H) {a:Addr} (h:s.heap.get? a=none):g.get? a=none:=by
  cases q:g.get? a with
  | none=>rfl
  | some o=>rw [C.keep _ _ q] at h; cases h
theorem fresh_size (h:Heap):h.get? h.objs.size=none:=by
  cases q:h.get? h.objs.size with
  | none=>rfl
  | some o=>exact absurd (Heap.lt_size q) (Nat.lt_irrefl _)
theorem Conc.push (C:Conc Pm g s.heap ι δ H) {x:Obj} {o:AO} (hx:x.isFreed=false)
    (r:OR Pm (s.heap.push x) (ι++[s.heap.objs.size]) s.heap.objs.size none o):Conc Pm g (s.heap.push x) (ι++[s.heap.objs.size]) (δ++[none]) (H++[o]):=
  C.alloc (fresh_size _) (fun b o e=>Heap.get?_push_of_some _ e) (fun j b e=>Nat.ne_of_lt (C.alive e)) (fun j d e=>Nat.ne_of_lt (C.aliveD e)) r
theorem Conc.pushL (C:Conc Pm g s.heap ι δ H) {vs:List Value} {xs:List AV} (r:VRs ι vs xs) {arr:Array Value} (ha:arr=vs.toArray) :
    Conc Pm g (s.heap.push { cls:=.type "list",data:=.seq arr }) (ι++[s.heap.objs.size]) (δ++[none]) (H++[.list xs]):=by
  subst ha
  exact C.push rfl ⟨rfl,vs,0,Heap.get?_push_size _ rfl,r.mono (List.prefix_append _ _)⟩
theorem Conc.pushT (C:Conc Pm g s.heap ι δ H) {vs:List Value} {xs:List AV} (r:VRs ι vs xs) :
    Conc Pm g (s.heap.push { cls:=.type "tuple",data:=.seq vs.toArray }) (ι++[s.heap.objs.size]) (δ++[none]) (H++[.tup xs]):=
  C.push rfl ⟨rfl,vs,0,Heap.get?_push_size _ rfl,r.mono (List.prefix_append _ _)⟩
theorem vr_new {a:Addr} (h:ι.length=H.length):VR (ι++[a]) (.ref a) (.ref H.length):=.ref (by rw [← h]; simp)
theorem Conc.list (C:Conc Pm g s.heap ι δ H) {G:Prop} {a:Addr} {k:Nat} {xs:List AV} (e:ι[k]?=some a) (ho:H[k]?=some (.list xs)) (K:∀ vs n,s.heap.get? a=some (listOf (List.toArray vs) n)→VRs ι vs xs→δ[k]?=some none→G):G:=by
  obtain ⟨b,d,e1,e2,r,vs,n,h,q⟩:=C.ob k _ ho
  rw [e] at e1; cases e1
  exact K vs n h q (r ▸ e2)
theorem Conc.tup (C:Conc Pm g s.heap ι δ H) {G:Prop} {a:Addr} {k:Nat} {xs:List AV} (e:ι[k]?=some a) (ho:H[k]?=some (.tup xs)) (K:∀ vs n,s.heap.get? a=some (tupOf (List.toArray vs) n)→VRs ι vs xs→G):G:=by
  obtain ⟨b,d,e1,e2,r,vs,n,h,q⟩:=C.ob k _ ho
  rw [e] at e1; cases e1
  exact K vs n h q
theorem isList_of {h:Heap} {a:Addr} {its:Array Value} {n:Nat} (e:h.get? a=some (listOf its n)):h.IsList a its:=⟨_,e,rfl,n,rfl⟩
theorem p_newList (C:Conc Pm g s.heap ι δ H) {vs:List Value} {xs:List AV} (r:VRs ι vs xs) (hl:xs.length≤1000000) (K:Ret Pm g s ι (H++[.list xs]) (.ref H.length) Q):wpAny (model pg w) A (newList vs) Q E s:=
  wpAny_newObj_type (K _ _ _ _ (C.pushL r rfl) (List.prefix_append _ _) (vr_new C.li) ⟨rfl,rfl⟩) (by show vs.toArray.size≤sizeLine; rw [List.size_toArray,r.len,sizeLine_eq]; omega)
theorem p_newTuple (C:Conc Pm g s.heap ι δ H) {vs:List Value} {xs:List AV} (r:VRs ι vs xs) (hl:xs.length≤1000000) (K:Ret Pm g s ι (H++[.tup xs]) (.ref H.length) Q):wpAny (model pg w) A (newTuple vs) Q E s:=
  wpAny_newObj_type (K _ _ _ _ (C.pushT r) (List.prefix_append _ _) (vr_new C.li) ⟨rfl,rfl⟩) (by show vs.toArray.size≤sizeLine; rw [List.size_toArray,r.len,sizeLine_eq]; omega)
noncomputable def binAdd (a b:AV) (H:Hp):Option (AV×Hp):=match a with
  | .int x=>asInt b fun y=>some (.int (x+y),H)
  | .ref k=>asRef b fun j=>atList H[k]? fun xs=>atList H[j]? fun ys=>if xs.length+ys.length≤1000000 then some (.ref H.length,H++[.list (xs++ys)]) else none
  | _=>none
noncomputable def binMul (a b:AV) (H:Hp):Option (AV×Hp):=asRef a fun k=>asInt b fun n=>atList H[k]? fun xs=>match xs with
  | []=>none
  | x::r=>if r=[]∧-1000000≤n∧n≤1000000 then some (.ref H.length,H++[.list (List.replicate n.toNat x)]) else none
noncomputable def binop (op:Operator) (a b:AV) (H:Hp):Option (AV×Hp):=match op with
  | .Add=>binAdd a b H
  | .Sub=>asInt a fun x=>asInt b fun y=>some (.int (x - y),H)
  | .Mod=>asInt a fun x=>asInt b fun y=>if y=0 then none else some (.int (x.fmod y),H)
  | .Mult=>binMul a b H
  | _=>none
theorem rep_one (x:Value) (n:Nat):List.foldl (fun x1 x2=>x1++x2) #[] (List.replicate n #[x])=(List.replicate n x).toArray:=by
  have:∀ (n:Nat) (a:Array Value),List.foldl (fun x1 x2=>x1++x2) a (List.replicate n #[x])=a++(List.replicate n x).toArray:=by
    intro n
    induction n with
    | zero=>intro a; simp
    | succ n ih=>
      intro a
      rw [List.replicate_succ,List.foldl_cons,ih,List.replicate_succ]
      apply Array.toList_inj.mp
      simp
  simpa using this n #[]
theorem p_add (C:Conc Pm g s.heap ι δ H) {a b:AV} {a' b':Value} (ra:VR ι a' a) (rb:VR ι b' b) (e:binAdd a b H=some (v,H')) (K:Ret Pm g s ι H' v Q):wpAny (model pg w) A (binaryOp .Add a' b') Q E s:=by
  cases ra with
  | int x t=>exact vIE rb e fun y u e=>P.add_int ((K.eqs e).here C (.int _ _))
  | ref ha=>
    refine vRE rb e fun j b hb e=>atList_i e fun xs h1 e=>atList_i e fun ys h2 e=>if_i e fun hl e=>C.list ha h1 fun vs n g1 r1 _=>C.list hb h2 fun ws n' g2 r2 _=>?_
    exact P.add_list g1 g2 (K.eqs e _ _ _ _ (C.pushL (r1.append r2) (by simp)) (List.prefix_append _ _) (vr_new C.li) ⟨rfl,rfl⟩) (by rw [List.size_toArray,List.size_toArray,r1.len,r2.len,sizeLine_eq]; omega)
  | _=>exact no_some e
theorem VRs.one {vs:List Value} {x:AV} (r:VRs ι vs [x]):∃ v,vs=[v]∧VR ι v x:=by
  cases vs with
  | nil=>exact nomatch r.len
  | cons v ws=>exact ⟨v,by rw [List.length_eq_zero_iff.mp (Nat.succ.inj r.len)],r.head⟩
theorem p_mul (C:Conc Pm g s.heap ι δ H) {a b:AV} {a' b':Value} (ra:VR ι a' a) (rb:VR ι b' b) (e:binMul a b H=some (v,H')) (K:Ret Pm g s ι H' v Q):wpAny (model pg w) A (binaryOp .Mult a' b') Q E s:=by
  refine vRE ra e fun k a ha e=>vIE rb e fun n u e=>atList_i e fun xs h1 e=>?_
  cases xs with
  | nil=>exact no_some e
  | cons x r=>
    refine if_i e fun hl e5=>C.list ha h1 fun vs k g1 r1 _=>?_
    obtain ⟨rfl,h3,h4⟩:=hl
    obtain ⟨y,rfl,r2⟩:=r1.one
    exact wpAny_binaryOp_repeat_ref (T := "list") (U := "int") (by decide) ⟨_,g1,rfl⟩ (fun s'=>typeIs_int s' n u) noFill_list_mul F.fills_int_mul F.slot_int_rmul repeat_list F.slot_int_index.lookup
      (call_meets F.slot_int_rmul (typeIs_int s n u) F.entry_int_rmul (F.args_int_rmul_2 _ _) (int___rmul___int_list n u _ _ k)
        ⟨g1,rfl,⟨_,g1,rfl⟩,call_meets F.slot_list_mul ⟨_,g1,rfl⟩ F.entry_list_mul (F.args_list_mul_2 _ _)
          (AutoListH.list___mul___list_int_3 _ _ k n u (by simp [Builtin.List.listFitsIndex]; omega) (by simp; omega) (by simp [Builtin.List.listTooLong,sizeLine]; omega))
          ⟨g1,K.eqs e5 _ _ _ _ (C.pushL (VRs.replicate r2 n.toNat) (rep_one y n.toNat)) (List.prefix_append _ _) (vr_new C.li) ⟨rfl,rfl⟩⟩⟩)
theorem p_binop (C:Conc Pm g s.heap ι δ H) {op:Operator} {a b:AV} {a' b':Value} (ra:VR ι a' a) (rb:VR ι b' b) (e:binop op a b H=some (v,H')) (K:Ret Pm g s ι H' v Q):wpAny (model pg w) A (binaryOp op a' b') Q E s:=by
  cases op with
  | Add=>exact p_add C ra rb e K
  | Mult=>exact p_mul C ra rb e K
  | Sub=>exact vIE ra e fun x t e=>vIE rb e fun y u e=>sub_int ((K.eqs e).here C (.int _ _))
  | Mod=>exact vIE ra e fun x t e=>vIE rb e fun y u e=>ifn_i e fun h e=>mod_int' h ((K.eqs e).here C (.int _ _))
  | _=>exact no_some e
end
end Mine
end
section
open PySem PySem.W PyProof.Rows PySem.Calls
set_option Elab.async false
set_option linter.all false
set_option autoImplicit false
set_option maxRecDepth 10000
namespace Mine
noncomputable def datAll (f:AV→Option Dat):List AV→Option (List Dat)
  | []=>some []
  | x::xs=>(f x).bind fun d=>(datAll f xs).map (d::·)
noncomputable def datRef (f:AV→Option Dat):Option AO→Option Dat
  | some (.list xs)=>(datAll f xs).map .list
  | some (.tup xs)=>(datAll f xs).map .tuple
  | _=>none
noncomputable def datOf (H:Hp):Nat→AV→Option Dat
  | _,.none=>some .none
  | _,.int i=>some (.int i)
  | n+1,.ref k=>datRef (datOf H n) H[k]?
  | _,_=>none
noncomputable def isNone:AV→Bool
  | .none=>true
  | _=>false
noncomputable def items:Option AO→Option (List AV)
  | some (.list xs)=>some xs
  | some (.tup xs)=>some xs
  | _=>none
open Classical in
noncomputable def eqD (H:Hp) (a b:AV):Option Bool:=(datOf H 8 a).bind fun d=>(datOf H 8 b).map fun e=>decide (d=e)
open Classical in
noncomputable def inD (H:Hp) (a:AV) (xs:List AV):Option Bool:=(datOf H 8 a).bind fun d=>(datAll (datOf H 8) xs).map fun es=>es.any fun e=>decide (e=d)
noncomputable def inO (H:Hp) (a b:AV):Option Bool:=asRef b fun k=>(items H[k]?).bind (inD H a)
noncomputable def cmpop (op:CmpOp) (a b:AV) (H:Hp):Option Bool:=match op with
  | .Lt=>asInt a fun x=>asInt b fun y=>some (decide (x<y))
  | .LtE=>asInt a fun x=>asInt b fun y=>some (decide (x≤y))
  | .Gt=>asInt a fun x=>asInt b fun y=>some (decide (x > y))
  | .GtE=>asInt a fun x=>asInt b fun y=>some (decide (x ≥ y))
  | .Is=>asNone b (some (isNone a))
  | .IsNot=>asNone b (some (!isNone a))
  | .Eq=>eqD H a b
  | .NotEq=>(eqD H a b).map not
  | .In=>inO H a b
  | .NotIn=>(inO H a b).map not
section
variable {Pm:Params} {w:World} {A:Around} {E:Value→Shared→Prop} {g:Heap} {s:Shared} {ι:List Addr} {δ:List (Option Addr)} {H H':Hp} {v:AV} {Q:Value→Shared→Prop}
theorem VRs.of_cons {vs:List Value} {x:AV} {xs:List AV} (r:VRs ι vs (x::xs)):∃ v ws,vs=v::ws∧VR ι v x∧VRs ι ws xs:=by
  cases vs with
  | nil=>exact nomatch r.len
  | cons v ws=>exact ⟨v,ws,rfl,r.head,r.tail⟩
theorem VRs.of_nil {vs:List Value} (r:VRs ι vs []):vs=[]:=List.length_eq_zero_iff.mp r.len
theorem VRs.two {vs:List Value} {x y:AV} (r:VRs ι vs [x,y]):∃ v u,vs=[v,u]∧VR ι v x∧VR ι u y:=by
  obtain ⟨v,ws,rfl,r1,r2⟩:=r.of_cons
  obtain ⟨u,rfl,r3⟩:=r2.one
  exact ⟨v,u,rfl,r1,r3⟩
@[elab_as_elim] theorem oneV {γ:Type} {x:γ} {G:List Value→Prop} {vs:List Value} {xs:List AV} {f:AV→Option γ} (q:VRs ι vs xs) (e:one xs f=some x) (K:∀ v a,VR ι v a→f a=some x→G [v]):G vs:=
  one_i e fun a h e=>let ⟨v,h1,h2⟩:=VRs.one (h ▸ q); h1 ▸ K v a h2 e
@[elab_as_elim] theorem twoV {γ:Type} {x:γ} {G:List Value→Prop} {vs:List Value} {xs:List AV} {f:AV→AV→Option γ} (q:VRs ι vs xs) (e:two xs f=some x) (K:∀ v u a b,VR ι v a→VR ι u b→f a b=some x→G [v,u]):G vs:=
  two_i e fun a b h e=>let ⟨v,u,h1,h2,h3⟩:=VRs.two (h ▸ q); h1 ▸ K v u a b h2 h3 e
theorem items_i {o:Option AO} {xs:List AV} {G:Prop} (e:items o=some xs) (K1:o=some (.list xs)→G) (K2:o=some (.tup xs)→G):G:=by
  cases o with
  | none=>exact no_some e
  | some o=>cases o with
    | list ys=>exact K1 (congrArg (fun x=>some (AO.list x)) (Option.some.inj e))
    | tup ys=>exact K2 (congrArg (fun x=>some (AO.tup x)) (Option.some.inj e))
    | _=>exact no_some e
theorem datRef_i {f:AV→Option Dat} {o:Option AO} {d:Dat} {G:Prop} (e:datRef f o=some d) (K1:∀ xs ds,o=some (.list xs)→datAll f xs=some ds→.list ds=d→G) (K2:∀ xs ds,o=some (.tup xs)→datAll f xs=some ds→.tuple ds=d→G):G:=by
  cases o with
  | none=>exact no_some e
  | some o=>cases o with
    | list ys=>exact map_i e fun ds h e=>K1 ys ds rfl h e
    | tup ys=>exact map_i e fun ds h e=>K2 ys ds rfl h e
    | _=>exact no_some e
theorem dat_all {f:AV→Option Dat} {n:Nat} (ih:∀ (x:AV) (d:Dat) (v:Value),f x=some d→VR ι v x→(∃ as,Reads s.heap v (kqdP d) as)∧kqdOk n d=true) :
    ∀ (xs:List AV) (ds:List Dat) (vs:List Value),datAll f xs=some ds→VRs ι vs xs→(∃ as,ReadsAll s.heap vs (kqdPs ds) as)∧∀ d∈ds,kqdOk n d=true:=by
  intro xs
  induction xs with
  | nil=>
    intro ds vs e r
    cases e
    obtain rfl:=r.of_nil
    exact ⟨⟨_,.nil⟩,fun _ h=>nomatch h⟩
  | cons x xs hi=>
    intro ds vs e r
    obtain ⟨v,ws,rfl,r1,r2⟩:=r.of_cons
    refine bind_i e fun d e1 e=>map_i e fun ds' e2 e=>?_
    subst e
    obtain ⟨⟨as,a⟩,b⟩:=ih x d v e1 r1
    obtain ⟨⟨as',a'⟩,b'⟩:=hi _ _ e2 r2
    refine ⟨⟨_,.cons a a'⟩,fun d' h=>?_⟩
    rcases List.mem_cons.mp h with rfl | h
    · exact b
    · exact b' _ h
theorem dat_reads (C:Conc Pm g s.heap ι δ H):∀ (n:Nat) (x:AV) (d:Dat) (v:Value),datOf H n x=some d→VR ι v x→(∃ as,Reads s.heap v (kqdP d) as)∧kqdOk n d=true:=by
  intro n
  induction n with
  | zero=>
    intro x d v e r
    cases r with
    | none=>obtain rfl:Dat.none=d:=Option.some.inj e; exact ⟨⟨_,.none⟩,rfl⟩
    | int i t=>obtain rfl:Dat.int i=d:=Option.some.inj e; exact ⟨⟨_,.int _ _⟩,rfl⟩
    | _=>exact no_some e
  | succ n ih=>
    intro x d v e r
    cases r with
    | none=>obtain rfl:Dat.none=d:=Option.some.inj e; exact ⟨⟨_,.none⟩,rfl⟩
    | int i t=>obtain rfl:Dat.int i=d:=Option.some.inj e; exact ⟨⟨_,.int _ _⟩,rfl⟩
    | @ref a k h=>
      refine datRef_i e (fun xs ds ho e1 e=>?_) (fun xs ds ho e1 e=>?_)
      · subst e
        refine C.list h ho fun vs m ga ra _=>?_
        obtain ⟨⟨as,q⟩,b⟩:=dat_all ih xs ds vs e1 ra
        exact ⟨⟨_,by rw [kqdP]; exact reads_list_at ga rfl rfl q⟩,by rw [kqdOk]; exact List.all_eq_true.mpr b⟩
      · subst e
        refine C.tup h ho fun vs m ga ra=>?_
        obtain ⟨⟨as,q⟩,b⟩:=dat_all ih xs ds vs e1 ra
        exact ⟨⟨_,by rw [kqdP]; exact reads_tuple_at ga rfl rfl q⟩,by rw [kqdOk]; exact List.all_eq_true.mpr b⟩
    | _=>exact no_some e
open Classical in
theorem eqv_dec {n k:Nat} {d e:Dat} (hd:kqdOk n d=true) (he:kqdOk k e=true):PyData.eqv (kqdP d) (kqdP e)=decide (d=e):=by
  have q:=kqd_eqv n d e k hd he
  by_cases hq:d=e
  · rw [decide_eq_true hq]; exact q.mpr hq
  · rw [decide_eq_false hq]; exact Bool.eq_false_iff.mpr fun x=>hq (q.mp x)
theorem eq_room {da db:Dat} {n:Nat} (hd:kqdOk n da=true) (hn:n≤8) (hu:A.units+64<cLine):A.units+min (kqdP da).depth (kqdP db).depth<cLine:=
  Nat.lt_of_le_of_lt (Nat.add_le_add_left (Nat.le_trans (Nat.min_le_left _ _) (Nat.le_trans (kqd_lay n da hd).2 (Nat.le_trans hn (by decide)))) _) hu
theorem p_eq (C:Conc Pm g s.heap ι δ H) {a b:AV} {a' b':Value} {c:Bool} (hu:A.units+64<cLine) (ra:VR ι a' a) (rb:VR ι b' b) (e:eqD H a b=some c) (K:Q (.bool c) s):wpAny (model pg w) A (compareOp .Eq a' b') Q E s:=
  bind_i e fun d e1 e=>map_i e fun f e2 e=>by
    subst e
    obtain ⟨⟨as,r1⟩,o1⟩:=dat_reads C 8 a d a' e1 ra
    obtain ⟨⟨bs,r2⟩,o2⟩:=dat_reads C 8 b f b' e2 rb
    exact SeqAt.compareEq_reads r1 r2 (kqd_lay _ _ o1).1 (kqd_lay _ _ o2).1 (eq_room o1 (Nat.le_refl _) hu) (by rw [eqv_dec o1 o2]; exact K)
theorem p_ne (C:Conc Pm g s.heap ι δ H) {a b:AV} {a' b':Value} {c:Bool} (hu:A.units+64<cLine) (ra:VR ι a' a) (rb:VR ι b' b) (e:eqD H a b=some c) (K:Q (.bool !c) s):wpAny (model pg w) A (compareOp .NotEq a' b') Q E s:=
  bind_i e fun d e1 e=>map_i e fun f e2 e=>by
    subst e
    obtain ⟨⟨as,r1⟩,o1⟩:=dat_reads C 8 a d a' e1 ra
    obtain ⟨⟨bs,r2⟩,o2⟩:=dat_reads C 8 b f b' e2 rb
    exact SeqAt.compareNe_reads r1 r2 (kqd_lay _ _ o1).1 (kqd_lay _ _ o2).1 (eq_room o1 (Nat.le_refl _) hu) (by rw [eqv_dec o1 o2]; exact K)
open Classical in
theorem any_eqv {n k:Nat} {d:Dat} (hd:kqdOk n d=true):∀ {es:List Dat},(∀ e∈es,kqdOk k e=true)→(kqdPs es).any (fun y=>y.eqv (kqdP d))=es.any fun e=>decide (e=d)
  | [],_=>rfl
  | e::es,h=>by rw [kqdPs,List.any_cons,List.any_cons,eqv_dec (h e (.head _)) hd,any_eqv hd fun x hx=>h x (.tail _ hx)]
theorem lay_all {es:List Dat} (h:∀ e∈es,kqdOk 8 e=true):PyData.canLayAll0 (kqdPs es)=true∧PyData.depthAll (kqdPs es)≤8:=by
  have q:=kqd_lay 9 (.list es) (List.all_eq_true.mpr h)
  rw [kqdP,PyData.canLay0,PyData.depth] at q
  exact ⟨q.1,by omega⟩
theorem in_room {n:Nat} {ds:List PyData} {d:PyData} (hu:A.units+64<cLine) (h:PyData.depthAll ds≤n) (hn:n≤8):A.units+1+min (PyData.depthAll ds) d.depth<cLine:=by
  rw [Nat.add_assoc]
  exact Nat.lt_of_le_of_lt (Nat.add_le_add_left (Nat.le_trans (Nat.add_le_add_left (Nat.le_trans (Nat.min_le_left _ _) (Nat.le_trans h hn)) 1) (by decide)) _) hu
theorem p_in (C:Conc Pm g s.heap ι δ H) {a b:AV} {a' b':Value} {c n:Bool} (hu:A.units+64<cLine) (ra:VR ι a' a) (rb:VR ι b' b) (e:inO H a b=some c)
    (K:Q (.bool (if n then !c else c)) s):wpAny (model pg w) A (compareOp (if n then .NotIn else .In) a' b') Q E s:=by
  refine vRE rb e fun k ad hi e=>bind_i e fun xs e1 e=>bind_i e fun d h1 e=>map_i e fun es h2 e=>?_
  subst e
  obtain ⟨⟨as,r1⟩,o1⟩:=dat_reads C 8 a d a' h1 ra
  refine items_i e1 (fun ho=>C.list hi ho fun vs m ga rs _=>?_) (fun ho=>C.tup hi ho fun vs m ga rs=>?_)
  · obtain ⟨⟨bs,r2⟩,o2⟩:=dat_all (dat_reads C 8) _ es vs h2 rs
    obtain ⟨l1,l2⟩:=lay_all o2
    have R:=reads_list_at ga rfl rfl r2
    cases n
    · exact SeqAt.in_list_reads R r1 l1 (kqd_lay _ _ o1).1 (in_room hu l2 (Nat.le_refl _)) (by rw [any_eqv o1 o2]; exact K)
    · exact SeqAt.notIn_list_reads R r1 l1 (kqd_lay _ _ o1).1 (in_room hu l2 (Nat.le_refl _)) (by rw [any_eqv o1 o2]; exact K)
  · obtain ⟨⟨bs,r2⟩,o2⟩:=dat_all (dat_reads C 8) _ es vs h2 rs
    obtain ⟨l1,l2⟩:=lay_all o2
    have R:=reads_tuple_at ga rfl rfl r2
    cases n
    · exact SeqAt.in_tuple_reads R r1 l1 (kqd_lay _ _ o1).1 (in_room hu l2 (Nat.le_refl _)) (by rw [any_eqv o1 o2]; exact K)
    · exact SeqAt.notIn_tuple_reads R r1 l1 (kqd_lay _ _ o1).1 (in_room hu l2 (Nat.le_refl _)) (by rw [any_eqv o1 o2]; exact K)
theorem isNone_eq {x:AV} {x':Value} (r:VR ι x' x):(x' == Value.none)=isNone x:=by cases r <;> rfl
theorem p_cmp (C:Conc Pm g s.heap ι δ H) {op:CmpOp} {a b:AV} {a' b':Value} {c:Bool} (hu:A.units+64<cLine) (ra:VR ι a' a) (rb:VR ι b' b) (e:cmpop op a b H=some c) (K:Q (.bool c) s) :
    wpAny (model pg w) A (compareOp op a' b') Q E s:=by
  cases op with
  | Lt=>exact vIE ra e fun x t e=>vIE rb e fun y u e=>PySem.P.lt_int (Option.some.inj e ▸ K)
  | LtE=>exact vIE ra e fun x t e=>vIE rb e fun y u e=>le_int (Option.some.inj e ▸ K)
  | Gt=>exact vIE ra e fun x t e=>vIE rb e fun y u e=>PySem.P.gt_int (Option.some.inj e ▸ K)
  | GtE=>exact vIE ra e fun x t e=>vIE rb e fun y u e=>PySem.P.ge_int (Option.some.inj e ▸ K)
  | Is=>exact vNE rb e fun e=>is_none_gen (by rw [isNone_eq ra,Option.some.inj e]; exact K)
  | IsNot=>exact vNE rb e fun e=>isnot_none_gen (by rw [isNone_eq ra,Option.some.inj e]; exact K)
  | Eq=>exact p_eq C hu ra rb e K
  | NotEq=>exact map_i e fun d e1 e=>p_ne C hu ra rb e1 (e ▸ K)
  | In=>exact p_in (n:=false) C hu ra rb e K
  | NotIn=>exact map_i e fun d e1 e=>p_in (n:=true) C hu ra rb e1 (e ▸ K)
end
end Mine
end
section
open PySem PySem.W PyProof.Rows PySem.Calls
set_option Elab.async false
set_option linter.all false
set_option autoImplicit false
set_option maxRecDepth 10000
namespace Mine
structure Stat (w:World) (g₀:Heap):Prop where
  K:(KK w.params).In g₀
  top:∃ mg mb,TopRead Hd.qv (looseW Hd.qv Hd.lo) mg mb g₀
structure Room (A:Around) (k:Nat):Prop where
  h:A.handled=none
  d:A.depth+3 * k+10<1000
  u:A.units+12 * k+200<9900
noncomputable def pyIdx (xs:List AV) (i:Int):Option AV:=(seqIndex? i xs.length).bind fun j=>xs[j]?
noncomputable def pick (xs:List AV) (lo hi:Option Int):List AV:=(xs.drop (kms_lo lo xs.length)).take (kms_hi hi xs.length - kms_lo lo xs.length)
noncomputable def notSlice (e:Expr):Bool:=e.ctorIdx != 26
section
variable {w:World} {A:Around} {E:Value→Shared→Prop} {g₀ g:Heap} {s:Shared} {ι:List Addr} {δ:List (Option Addr)} {H H':Hp} {v:AV} {Q:Value→Shared→Prop} {L:Addr} {m:Str→Option Value}
theorem Conc.inst {Pm:Params} (C:Conc Pm g s.heap ι δ H) {G:Prop} {a:Addr} {k:Nat} {c:Nat} {fs:List (Str×AV)} (e:ι[k]?=some a) (ho:H[k]?=some (.inst c fs))
    (K:∀ dx es n,δ[k]?=some (some dx)→s.heap.get? a=some (instObj c dx)→s.heap.get? dx=some (dictOf es n)→FRs Pm ι es fs→InstAt s.heap a (instObj c dx) c (some (dictOf es n))→(∀ p∈fs,attrB Pm c p.1=true)→G):G:=by
  obtain ⟨b,d,e1,e2,dx,es,n,rfl,g1,g2,q,t⟩:=C.ob k _ ho
  rw [e] at e1; cases e1
  exact K dx es n e2 g1 g2 q ⟨g1,rfl,rfl,g2⟩ t
theorem fget_mem {x:Str} {v:AV}:∀ {fs:List (Str×AV)},fget x fs=some v→∃ y,(x,y)∈fs
  | [],h=>by simp [fget] at h
  | (y,a)::fs,h=>by
    rw [fget_cons] at h
    cases e:y == x with
    | true=>exact ⟨a,by rw [← eq_of_beq e]; exact .head _⟩
    | false=>rw [e] at h; obtain ⟨z,hz⟩:=fget_mem h; exact ⟨z,.tail _ hz⟩
structure AttrOk (Pm:Params) (c:Nat) (x:Str):Prop where
  pg:plainGet (KK Pm) c x=true
  hd:hasDictIn (KK Pm) c=true
  fi:∃ attr,findIn (KK Pm) (.ref c) x=some attr∧noGet (KK Pm) attr=true
  sa:findIn (KK Pm) (.ref c) "__setattr__" = some (some (.builtin "object.__setattr__"))
  po:plainOver (KK Pm) c=true
  tk:takerIn (KK Pm) c x=some none
theorem attrOk_of {Pm:Params} {c:Nat} {x:Str} (h:attrB Pm c x=true):AttrOk Pm c x:=by
  unfold attrB at h
  simp only [Bool.and_eq_true,beq_iff_eq] at h
  obtain ⟨⟨⟨⟨⟨a,b⟩,c⟩,d⟩,e⟩,f⟩:=h
  obtain ⟨attr,h1,h2⟩:=Option.any_eq_true .. |>.mp c
  exact ⟨a,b,⟨attr,h1,h2⟩,d,e,f⟩
theorem handed_vr {x':Value} {x:AV} (r:VR ι x' x):handedIn x'=true:=by cases r <;> rfl
theorem p_attr (S:Stat w g₀) (F:Fr g₀ L s.heap m) (C:Conc w.params g s.heap ι δ H) {a:Addr} {k c:Nat} {fs:List (Str×AV)} {name:Str} (ha:ι[k]?=some a) (ho:H[k]?=some (.inst c fs)) (e:fget name fs=some v)
    (K:Ret w.params g s ι H v Q):wpAny (model pg w) A (getAttr (.ref a) name true) Q E s:=by
  refine C.inst ha ho fun dx es n _ _ _ q I t=>?_
  obtain ⟨y,hy⟩:=fget_mem e
  have O:=attrOk_of (t _ hy)
  obtain ⟨attr,f1,f2⟩:=O.fi
  obtain ⟨v',e1,r⟩:=q.get e
  exact get_own F S.K I O.pg O.hd f1 f2 e1 (handed_vr r) (K.here C r)
theorem seq_some {i:Int} {n j:Nat} (e:seqIndex? i n=some j):(0≤i∧i<n∧j=i.toNat)∨(i<0∧-(n:Int)≤i∧j=(i+n).toNat):=by
  unfold seqIndex? at e
  by_cases h:i<0
  · rw [if_pos h] at e
    refine if_i e fun q e=>?_
    rw [Bool.and_eq_true,decide_eq_true_eq,decide_eq_true_eq] at q
    exact .inr ⟨h,by lia,(Option.some.inj e).symm⟩
  · rw [if_neg h] at e
    refine if_i e fun q e=>?_
    rw [Bool.and_eq_true,decide_eq_true_eq,decide_eq_true_eq] at q
    exact .inl ⟨q.1,q.2,(Option.some.inj e).symm⟩
theorem p_getList (C:Conc w.params g s.heap ι δ H) {a:Addr} {k:Nat} {xs:List AV} {i:Int} {u:Tok} (ha:ι[k]?=some a) (ho:H[k]?=some (.list xs)) (hl:xs.length≤1000000) (e:pyIdx xs i=some v)
    (K:Ret w.params g s ι H v Q):wpAny (model pg w) A (getItem (.ref a) (.int i u)) Q E s:=by
  refine C.list ha ho fun vs n ga r _=>bind_i e fun j h1 h2=>?_
  obtain ⟨v',e1,r'⟩:=r.at h2
  rw [← r.len] at h1 hl
  rcases seq_some h1 with ⟨q1,q2,rfl⟩ | ⟨q1,q2,rfl⟩
  · exact wpAny_getItem_list (isList_of ga) q1 (by lia) (by simpa using e1) (K.here' C r')
  · exact wpAny_getItem_list_neg (isList_of ga) q1 (by rw [List.size_toArray]; lia) (by lia) (by rw [List.size_toArray]; simpa using e1) (K.here' C r')
theorem p_getTup (C:Conc w.params g s.heap ι δ H) {a:Addr} {k:Nat} {xs:List AV} {i:Int} {u:Tok} (ha:ι[k]?=some a) (ho:H[k]?=some (.tup xs)) (hl:xs.length≤1000000) (e:pyIdx xs i=some v)
    (K:Ret w.params g s ι H v Q):wpAny (model pg w) A (getItem (.ref a) (.int i u)) Q E s:=by
  refine C.tup ha ho fun vs n ga r=>bind_i e fun j h1 h2=>?_
  obtain ⟨v',e1,r'⟩:=r.at h2
  have b:-(2 ^ 63)≤i∧i<2 ^ 63:=by rcases seq_some h1 with ⟨q1,q2,_⟩ | ⟨q1,q2,_⟩ <;> lia
  exact getItem_tuple ⟨_,ga,rfl,n,rfl⟩ b.1 b.2 (by rw [List.size_toArray,r.len]; exact h1) (by simpa using e1) (K.here' C r')
noncomputable def idx (a i:AV) (H:Hp):Option AV:=asRef a fun k=>asInt i fun i=>(items H[k]?).bind fun xs=>if xs.length≤1000000 then pyIdx xs i else none
theorem sub_plain {sl:Expr} {o i:Value} (h:notSlice sl=true):subscripted sl false o i=operate [o,i] (getItem o i):=by
  cases sl <;> first | rfl | exact (Bool.false_ne_true h).elim
theorem p_idx (C:Conc w.params g s.heap ι δ H) {value slice:Expr} {a i:AV} {a' i':Value} (ns:notSlice slice=true) (ra:VR ι a' a) (ri:VR ι i' i) (e:idx a i H=some v) (K:Ret w.params g s ι H v Q) :
    wpAny (model pg w) A (subscriptTail value slice a' i') Q E s:=
  vRE ra e fun k ad ha e=>vIE ri e fun n u e=>bind_i e fun xs hx e=>if_i e fun hl e=>items_i hx
    (fun ho=>C.list ha ho fun vs n' ga r _=>tail_any (isList_of ga).typeIs PySem.F.slot_list_getitem.lookup (p_getList C ha ho hl e K) (sub_plain ns))
    (fun ho=>C.tup ha ho fun vs n' ga r=>tail_any (T := "tuple") ⟨_,ga,rfl⟩ PySem.F.slot_tuple_getitem.lookup (p_getTup C ha ho hl e K) (sub_plain ns))
theorem pick_vrs {vs:List Value} {xs:List AV} (r:VRs ι vs xs) (lo hi:Option Int):VRs ι (kms_pick vs lo hi) (pick xs lo hi):=by
  unfold kms_pick pick
  rw [r.len]
  exact (r.drop _).take _
noncomputable def part (v:AV):Option (Option Int):=match v with
  | .none=>some none
  | .int i=>some (some i)
  | _=>none
theorem part_vr {x:AV} {x':Value} {p:Option Int} (r:VR ι x' x) (e:part x=some p):IsPart x' p:=by
  cases r with
  | none=>exact Option.some.inj e ▸ .none
  | int i t=>exact Option.some.inj e ▸ .int _ _
  | _=>exact no_some e
noncomputable def slice (a l u:AV) (H:Hp):Option (AV×Hp):=asRef a fun k=>(part l).bind fun lo=>(part u).bind fun hi=>atList H[k]? fun xs=>if xs.length≤1000000 then some (.ref H.length,H++[.list (pick xs lo hi)]) else none
noncomputable abbrev slS (s:Shared) (l u:Value):Shared:={ s with heap:=s.heap.push { cls:=.type "slice",data:=.fields #[l,u,.none] } }
theorem slS_keep {l u:Value}:∀ (b:Addr) (o:Obj),s.heap.get? b=some o→(slS s l u).heap.get? b=some o:=fun b o e=>Heap.get?_push_of_some _ e
theorem p_pick {l' u':Value} (C:Conc w.params g (slS s l' u').heap ι δ H) {value:Expr} {lo hi:Option Expr} {p:Pos} {ad:Addr} {vs:List Value} {xs:List AV} {n:Nat} {l u:AV} {lo' hi':Option Int} (ga:(slS s l' u').heap.get? ad=some (listOf vs.toArray n)) (r:VRs ι vs xs) (hl:xs.length≤1000000)
    (rl:VR ι l' l) (ru:VR ι u' u) (e1:part l=some lo') (e2:part u=some hi') (K:Ret w.params g s ι (H++[.list (pick xs lo' hi')]) (.ref H.length) Q) :
    wpAny (model pg w) A (subscriptTail value (.Slice lo hi none p) (.ref ad) (.ref s.heap.objs.size)) Q E (slS s l' u'):=by
  refine tail_any (ops:=[.ref s.heap.objs.size,_]) (isList_of ga).typeIs PySem.F.slot_list_getitem.lookup ?_ rfl
  refine wpAny_getItem_list_slice (isList_of ga) ⟨_,Heap.get?_push_size _ rfl,rfl,rfl⟩ (part_vr rl e1) (part_vr ru e2) .none (by intro h; cases h) ?_ (by rw [List.size_toArray,r.len,sizeLine_eq]; exact Nat.le_trans hl (by decide))
  exact K _ _ _ _ (C.pushL (pick_vrs r lo' hi') (by rw [kms_pick_eq])) (List.prefix_append _ _) (vr_new C.li) ⟨rfl,rfl⟩
theorem p_slice (C:Conc w.params g s.heap ι δ H) {value:Expr} {lo hi:Option Expr} {p:Pos} {a l u:AV} {a' l' u':Value} (ra:VR ι a' a) (rl:VR ι l' l) (ru:VR ι u' u) (e:slice a l u H=some (v,H')) (K:Ret w.params g s ι H' v Q) :
    wpAny (model pg w) A (subscriptTail value (.Slice lo hi none p) a' (.ref s.heap.objs.size)) Q E (slS s l' u'):=
  vRE ra e fun k ad ha e=>bind_i e fun lo' e1 e=>bind_i e fun hi' e2 e=>atList_i e fun xs ho e=>if_i e fun hl e=>C.list ha ho fun vs n ga r _=>
    p_pick (C.grow slS_keep) (slS_keep _ _ ga) r hl rl ru e1 e2 (K.eqs e)
end
end Mine
end
section
open PySem PySem.W PyProof.Rows PySem.Calls
set_option Elab.async false
set_option linter.all false
set_option autoImplicit false
set_option maxRecDepth 10000
namespace Mine
section
variable {w:World} {A:Around} {E:Value→Shared→Prop} {g₀ g:Heap} {s:Shared} {ι:List Addr} {δ:List (Option Addr)} {H H':Hp} {v:AV} {Q:Value→Shared→Prop} {L:Addr} {m:Str→Option Value}
theorem Conc.setL {Pm:Params} (C:Conc Pm g s.heap ι δ H) {a:Addr} {k:Nat} {xs xs':List AV} {vs':List Value} {arr:Array Value} {n:Nat} {f:Array Value→Array Value} (ha:ι[k]?=some a) (ho:H[k]?=some (.list xs)) (hg:s.heap.get? a=some (listOf arr n))
    (hf:f arr=List.toArray vs') (r:VRs ι vs' xs'):Conc Pm g (s.heap.update a (Obj.mapSeq f)) ι δ (H.set k (.list xs')):=by
  refine C.list ha ho fun vs n' ga _ hd=>?_
  refine C.turn ha hd (.inl rfl) (fun b y hb e=>by rw [Heap.get?_update_other _ _ (Ne.symm hb)]; exact e) ⟨rfl,vs',(if (f arr).size == arr.size then n else n+1),(Heap.get?_update_self (o:=listOf arr n) _ hg rfl).trans ?_,r⟩
  rw [← hf]; rfl
noncomputable def upd (x:AV) (f:List AV→Option (List AV)) (H:Hp):Option Hp:=asRef x fun k=>atList H[k]? fun xs=>if xs.length≤1000000 then (f xs).map fun ys=>H.set k (.list ys) else none
theorem p_getM (C:Conc w.params g s.heap ι δ H) {a:Addr} {k:Nat} {xs:List AV} (ha:ι[k]?=some a) (ho:H[k]?=some (.list xs)) {name:Str} {id:String} {pl:Sem Bool} {Q:Value×List Value→Shared→Prop}
    (slot:Slot "list" name id) (hty:typeOf (.builtin id)=pure (.type "method_descriptor")) (K:Q (.builtin id,[.ref a]) s):wpAny (model pg w) A (getMethod (.ref a) name pl) Q E s:=by
  refine C.list ha ho fun vs n ga r _=>?_
  exact getMethod_builtin ⟨_,ga,rfl⟩ PySem.F.plainAttrs_list slot hty (fun b e=>by cases e; exact ⟨_,ga,rfl⟩) K
theorem p_append (C:Conc w.params g s.heap ι δ H) {a:Addr} {k:Nat} {xs:List AV} {x:AV} {x':Value} (ha:ι[k]?=some a) (rx:VR ι x' x) (ho:H[k]?=some (.list xs)) (hl:xs.length≤1000000)
    (K:Ret w.params g s ι (H.set k (.list (xs++[x]))) .none Q):wpAny (model pg w) A (call (.builtin "list.append") [.ref a,x']) Q E s:=by
  refine C.list ha ho fun vs n ga r _=>?_
  refine call_meets PySem.F.slot_list_append ⟨_,ga,rfl⟩ PySem.F.entry_list_append (PySem.F.args_list_append_2 _ _) (list_append a vs.toArray n x' (by rw [List.size_toArray,r.len,sizeLine_eq]; omega)) ⟨ga,?_⟩
  exact K _ _ _ _ (C.setL ha ho ga (by simp) (r.append (.cons rx .nil))) (List.prefix_refl _) .none ⟨rfl,rfl⟩
theorem p_pop (C:Conc w.params g s.heap ι δ H) {a:Addr} {k:Nat} {xs:List AV} {x:AV} {u:Tok} (ha:ι[k]?=some a) (ho:H[k]?=some (.list (x::xs))) (hl:xs.length+1≤1000000)
    (K:Ret w.params g s ι (H.set k (.list xs)) x Q):wpAny (model pg w) A (call (.builtin "list.pop") [.ref a,.int 0 u]) Q E s:=by
  refine C.list ha ho fun vs n ga r _=>?_
  obtain ⟨v,ws,rfl,r1,r2⟩:=r.of_cons
  refine call_meets PySem.F.slot_list_pop ⟨_,ga,rfl⟩ PySem.F.entry_list_pop (PySem.F.args_list_pop_2 _ _) (MeetsSeq.list_pop_at a _ n 0 u 0 v (by decide) (by simp [seqIndex?]) (by simp) (by simp [r2.len,sizeLine_eq]; omega)) ⟨ga,?_⟩
  exact K _ _ _ _ (C.setL ha ho ga (by simp [Array.eraseIdxIfInBounds]) r2) (List.prefix_refl _) r1 ⟨rfl,rfl⟩
noncomputable def intsOf:List AV→Option (List Int)
  | []=>some []
  | x::xs=>asInt x fun i=>(intsOf xs).map (i::·)
theorem intsOf_map (l:List Int):intsOf (l.map .int)=some l:=by
  induction l with
  | nil=>rfl
  | cons i l ih=>exact congrArg (Option.map (i::·)) ih
theorem intsOf_at:∀ {xs:List AV} {l:List Int},intsOf xs=some l→xs=l.map .int:=by
  intro xs
  induction xs with
  | nil=>intro l e; exact Option.some.inj e ▸ rfl
  | cons x xs ih=>
    intro l e
    exact asInt_i e fun i q e=>map_i e fun l' h e=>by rw [← e,ih h,q]; rfl
noncomputable def vInt:Value→Int
  | .int i _=>i
  | _=>0
theorem vrs_int:∀ {vs:List Value} {l:List Int},VRs ι vs (l.map .int)→(∀ v∈vs,∃ t,v=.int (vInt v) t)∧vs.map vInt=l
  | vs,[],r=>by
    obtain rfl:=VRs.of_nil (ι:=ι) r
    exact ⟨fun _ h=>(nomatch h),rfl⟩
  | vs,i::l,r=>by
    obtain ⟨v,ws,rfl,r1,r2⟩:=VRs.of_cons (x:=.int i) (xs:=l.map .int) r
    obtain ⟨h1,h2⟩:=vrs_int r2
    refine vI r1 fun t=>⟨fun v h=>?_,by rw [List.map_cons,h2]; rfl⟩
    rcases List.mem_cons.mp h with rfl | h
    · exact ⟨t,rfl⟩
    · exact h1 v h
theorem p_count (C:Conc w.params g s.heap ι δ H) {a:Addr} {k:Nat} {xs:List AV} {l:List Int} {c:Int} {u:Tok} (ha:ι[k]?=some a) (ho:H[k]?=some (.list xs)) (hi:intsOf xs=some l)
    (K:Ret w.params g s ι H (.int (l.count c)) Q):wpAny (model pg w) A (call (.builtin "list.count") [.ref a,.int c u]) Q E s:=by
  refine C.list ha ho fun vs n ga r _=>?_
  rw [intsOf_at hi] at r
  obtain ⟨h1,h2⟩:=vrs_int r
  refine call_meets PySem.F.slot_list_count ⟨_,ga,rfl⟩ PySem.F.entry_list_count (PySem.F.args_list_count_2 _ _) (MeetsSeq.list_count a vs.toArray n (.int c u) (fun v=>vInt v == c) (fun y hy=>?_)) ⟨ga,?_⟩
  · obtain ⟨t,e⟩:=h1 y (by simpa using hy)
    rw [e]
    exact MeetsSeq.EqGives.int _ _ _ _
  · have e:List.countP (fun v=>vInt v == c) vs=l.count c:=by
      rw [← h2,List.count,List.countP_map]; rfl
    refine K _ _ _ _ (by exact C) (List.prefix_refl _) ?_ ⟨rfl,rfl⟩
    show VR ι (.int ((List.countP (fun v=>vInt v == c) vs:Nat):Int) _) _
    rw [e]; exact .int _ _
theorem p_len (C:Conc w.params g s.heap ι δ H) {a:Addr} {k:Nat} {xs:List AV} (ha:ι[k]?=some a) (ho:H[k]?=some (.list xs)) (hl:xs.length≤1000000)
    (K:Ret w.params g s ι H (.int xs.length) Q):wpAny (model pg w) A (call (.builtin "len") [.ref a]) Q E s:=by
  refine C.list ha ho fun vs n ga r _=>?_
  refine call_len_list (isList_of ga) (by rw [List.size_toArray,r.len]; omega) (K _ _ _ _ (by exact C) (List.prefix_refl _) ?_ ⟨rfl,rfl⟩)
  rw [List.size_toArray,r.len]; exact .int _ _
theorem p_min (hh:A.handled=none) (C:Conc w.params g s.heap ι δ H) {a b:Int} {t u:Tok} (K:Ret w.params g s ι H (.int (min a b)) Q):wpAny (model pg w) A (call (.builtin "min") [.int a t,.int b u]) Q E s:=
  min_two_ints hh fun h' tk kp=>K _ ι δ _ (C.grow kp) (List.prefix_refl _) (by
    by_cases q:b<a
    · rw [if_pos q,Int.min_eq_right (Int.le_of_lt q)]; exact .int _ _
    · rw [if_neg q,Int.min_eq_left (Int.not_lt.mp q)]; exact .int _ _) ⟨rfl,rfl⟩
theorem p_max (hh:A.handled=none) (C:Conc w.params g s.heap ι δ H) {a b:Int} {t u:Tok} (K:Ret w.params g s ι H (.int (max a b)) Q):wpAny (model pg w) A (call (.builtin "max") [.int a t,.int b u]) Q E s:=
  max_two_ints hh fun h' tk kp=>K _ ι δ _ (C.grow kp) (List.prefix_refl _) (by
    by_cases q:b > a
    · rw [if_pos q,Int.max_eq_right (Int.le_of_lt q)]; exact .int _ _
    · rw [if_neg q,Int.max_eq_left (Int.not_lt.mp q)]; exact .int _ _) ⟨rfl,rfl⟩
theorem p_abs (C:Conc w.params g s.heap ι δ H) {a:Int} {t:Tok} (K:Ret w.params g s ι H (.int a.natAbs) Q):wpAny (model pg w) A (call (.builtin "abs") [.int a t]) Q E s:=
  call_abs_int fun u tk=>K _ ι δ _ (by exact C) (List.prefix_refl _) (by
    have:(if a<0 then -a else a)=(a.natAbs:Int):=by
      by_cases q:a<0
      · rw [if_pos q,Int.ofNat_natAbs_of_nonpos (Int.le_of_lt q)]
      · rw [if_neg q,Int.natAbs_of_nonneg (Int.not_lt.mp q)]
    rw [this]; exact .int _ _) ⟨rfl,rfl⟩
theorem p_list (C:Conc w.params g s.heap ι δ H) {a:Addr} {k:Nat} {xs:List AV} (ha:ι[k]?=some a) (ho:H[k]?=some (.list xs)) (hl:xs.length≤1000000)
    (K:Ret w.params g s ι (H++[.list xs]) (.ref H.length) Q):wpAny (model pg w) A (call (.type "list") [.ref a]) Q E s:=by
  refine C.list ha ho fun vs n ga r _=>?_
  refine call_list_seq a (.inl rfl) ga rfl rfl (fun h' c' kp hn=>?_) (by rw [List.size_toArray,r.len,sizeLine_eq]; omega)
  exact K _ _ _ _ (C.alloc (fresh_size _) kp (fun j b e=>Nat.ne_of_lt (C.alive e)) (fun j d e=>Nat.ne_of_lt (C.aliveD e)) ⟨rfl,vs,c',hn,r.mono (List.prefix_append _ _)⟩) (List.prefix_append _ _) (vr_new C.li) ⟨rfl,rfl⟩
noncomputable def setIx (x i v:AV) (H:Hp):Option Hp:=asInt i fun n=>upd x (fun xs=>if 0≤n∧n<xs.length then some (xs.set n.toNat v) else none) H
theorem Ret.unit {H1:Hp} {Q:Unit→Shared→Prop} (K:Ret w.params g s ι H' .none (fun _ s'=>Q () s')) (e:H1=H') {s':Shared} {ι':List Addr} {δ':List (Option Addr)} (C:Conc w.params g s'.heap ι' δ' H1) (p:ι<+:ι') (q:Rest s s'):Q () s':=K s' ι' δ' .none (e ▸ C) p .none q
theorem p_setIx (C:Conc w.params g s.heap ι δ H) {x i y:AV} {x' i' y':Value} (rx:VR ι x' x) (ri:VR ι i' i) (ry:VR ι y' y) (e:setIx x i y H=some H') {Q:Unit→Shared→Prop}
    (K:Ret w.params g s ι H' .none (fun _ s'=>Q () s')):wpAny (model pg w) A (setItem x' i' y') Q E s:=
  vIE ri e fun n u e=>vRE rx e fun k a ha e=>atList_i e fun xs ho e=>if_i e fun hl e=>map_i e fun ys h e=>if_i h fun hn h=>C.list ha ho fun vs n' ga r _=>
    ki_setAt ga hn.1 (by lia) (by rw [List.size_toArray,r.len]; exact hn.2) (K.unit e (C.setL ha ho ga (by simp) (Option.some.inj h ▸ r.set ry _)) (List.prefix_refl _) ⟨rfl,rfl⟩)
noncomputable def splice (xs:List AV) (lo hi:Option Int) (ys:List AV):List AV:=xs.take (kms_lo lo xs.length)++ys++xs.drop (max (kms_lo lo xs.length) (kms_hi hi xs.length))
theorem wp_t {α:Type} {c:Prop} [Decidable c] {x y:Sem α} {Q:α→Shared→Prop} (h:c) (e:wpAny (model pg w) A x Q E s):wpAny (model pg w) A (if c then x else y) Q E s:=by rw [if_pos h]; exact e
theorem wp_f {α:Type} {c:Prop} [Decidable c] {x y:Sem α} {Q:α→Shared→Prop} (h:¬c) (e:wpAny (model pg w) A y Q E s):wpAny (model pg w) A (if c then x else y) Q E s:=by rw [if_neg h]; exact e
theorem not_long {n:Nat} (h:n≤1000000):¬ Builtin.List.listTooLong n=true:=fun q=>absurd (of_decide_eq_true q) (Nat.not_lt.mpr (Nat.le_trans h (by decide)))
theorem small_size {n:Nat} (h:n≤1000000):n≤sizeLine:=Nat.le_trans h (by decide)
theorem spl_len {vs ws:List Value} {lo hi:Option Int} (hz:vs.length+ws.length≤1000000):(vs.toArray.extract 0 ((kms_lo lo vs.length:Nat):Int).toNat++ws.toArray++vs.toArray.extract (max ((kms_lo lo vs.length:Nat):Int) ((kms_hi hi vs.length:Nat):Int)).toNat).size≤sizeLine+1:=by
  rw [Array.size_append,Array.size_append,Array.size_extract,Array.size_extract,List.size_toArray,List.size_toArray]
  exact Nat.le_trans (Nat.add_le_add (Nat.add_le_add (Nat.le_trans (Nat.sub_le _ _) (Nat.min_le_right _ _)) (Nat.le_refl _)) (Nat.le_trans (Nat.sub_le _ _) (Nat.min_le_right _ _))) (Nat.le_trans (Nat.add_le_add hz (Nat.le_trans (Nat.le_add_right _ _) hz)) (by decide))
theorem setItem_slice {l b sl:Addr} {vs ws:List Value} {n n':Nat} {vl vu:Value} {lo hi:Option Int} {Q:Unit→Shared→Prop} (ho:s.heap.get? l=some (listOf vs.toArray n)) (hb:s.heap.get? b=some (listOf ws.toArray n')) (hne:l≠b)
    (hs:s.heap.IsSliceOf sl vl vu .none) (pl:IsPart vl lo) (pu:IsPart vu hi) (hz:vs.length+ws.length≤1000000)
    (h:Q () { s with heap:=s.heap.update l (Obj.mapSeq fun xs=>xs.extract 0 ((kms_lo lo vs.length:Nat):Int).toNat++ws.toArray++xs.extract (max ((kms_lo lo vs.length:Nat):Int) ((kms_hi hi vs.length:Nat):Int)).toNat) }) :
    wpAny (model pg w) A (setItem (.ref l) (.ref sl) (.ref b)) Q E s:=by
  have hl:s.heap.IsList l vs.toArray:=isList_of ho
  obtain ⟨os,hos,hcs,hds⟩:=id hs
  have hTs:s.TypeIs (.ref sl) "slice" := ⟨os,hos,hcs⟩
  unfold setItem
  try with_reducible refine wpAny_holding ?_
  first | refine wpAny_bind (wpAny_pure ?_) | skip
  refine wpAny_bind (wpAny_sequenceKey hl.typeIs (by decide) ?_)
  refine wpAny_bind (wpAny_callSpecial?_slot (name:=Str.ofString "__setitem__") hl.typeIs PySem.F.slot_list_setitem
    (wpAny_call_entry PySem.F.slot_list_setitem hl.typeIs PySem.F.entry_list_setitem ?_ (PySem.F.args_list_setitem_3 _ _ _)))
  show wpAny _ _ (Builtin.List.listSubscript? (.ref sl) >>= _) _ _ s
  refine wpAny_bind ?_
  unfold Builtin.List.listSubscript?
  refine wpAny_bind (wpAny_specialOf hTs slice_no_index ?_)
  refine wp_t rfl (wpAny_pure ?_)
  show wpAny _ _ (typeOf (.ref sl) >>= _) _ _ s
  refine wpAny_bind (wpAny_typeOf hTs ?_)
  refine wp_f (by decide) ?_
  rw [listSliceParts_eq]
  refine wpAny_bind (wpAny_bind (wpAny_field hos hds (x:=.none) rfl (wpAny_bind (wpAny_listPart .none ?_))))
  refine wp_f Bool.false_ne_true ?_
  refine wpAny_bind (wpAny_field hos hds (x:=vl) rfl (wpAny_bind (wpAny_listPart pl ?_)))
  refine wpAny_bind (wpAny_field hos hds (x:=vu) rfl (wpAny_bind (wpAny_listPart pu (wpAny_pure ?_))))
  refine wp_f (fun q=>hne (eq_of_beq q)) ?_
  refine wpAny_bind ?_
  unfold Builtin.List.listAllItems
  refine wpAny_bind (wpAny_typeOf (T := "list") ⟨_,hb,rfl⟩ ?_)
  refine wp_t (by decide) ?_
  unfold Builtin.List.listItems
  refine wpAny_bind (wpAny_seqItems hb rfl (wpAny_pure ?_))
  refine wpAny_bind (wpAny_bind (wpAny_seqItems ho rfl (wpAny_pure ?_)))
  refine wpAny_bind (wpAny_of_eq (sliceIndices_raw lo hi none vs.toArray.size (by intro h; cases h)) ?_)
  rw [kms_bounds,List.size_toArray]
  refine wp_t (by decide) (wpAny_bind (wpAny_rule (wp_f (not_long hz) ?_)))
  show wpAny _ _ (updateSeq l _ >>= _) _ _ s
  refine wpAny_bind (wpAny_updateSeq ho rfl ?_ (small_size (Nat.le_trans (Nat.le_add_right _ _) hz)) (spl_len hz))
  exact wpAny_bind (wpAny_letGo (wpAny_pure ⟨.none,rfl,wpAny_pure h⟩))
end
end Mine
end
section
open PySem PySem.W PyProof.Rows PySem.Calls
set_option Elab.async false
set_option linter.all false
set_option autoImplicit false
set_option maxRecDepth 10000
namespace Mine
section
variable {w:World} {A:Around} {E:Value→Shared→Prop} {g₀ g:Heap} {s:Shared} {ι:List Addr} {δ:List (Option Addr)} {H H':Hp} {v:AV} {Q:Value→Shared→Prop} {L:Addr} {m:Str→Option Value}
theorem fresh_of {h h':Heap} (k:∀ (b:Addr) (o:Obj),h.get? b=some o→h'.get? b=some o):h.get? h'.objs.size=none:=by
  cases q:h.get? h'.objs.size with
  | none=>rfl
  | some o=>exact absurd (Heap.lt_size (k _ _ q)) (Nat.lt_irrefl _)
theorem Conc.alloc' {Pm:Params} (C:Conc Pm g s.heap ι δ H) {h':Heap} {a:Addr} {o:AO} (fresh:s.heap.get? a=none) (k:∀ (b:Addr) (o:Obj),s.heap.get? b=some o→h'.get? b=some o)
    (r:OR Pm h' (ι++[a]) a none o):Conc Pm g h' (ι++[a]) (δ++[none]) (H++[o]):=
  C.alloc fresh k (fun j b e q=>by obtain ⟨x,hx⟩:=C.get_i e; subst q; rw [fresh] at hx; cases hx) (fun j d e q=>by obtain ⟨x,hx⟩:=C.get_d e; subst q; rw [fresh] at hx; cases hx) r
theorem sortedHeap_keep {h:Heap} {a b:Addr} {vs:List Value} {out:Array Value} {o:Obj} (hne:b≠a) (e:h.get? b=some o):(sortedHeap h a vs out).get? b=some o:=by
  unfold sortedHeap
  rw [Heap.get?_update_other _ _ (Ne.symm hne)]
  refine Heap.get?_push_of_some _ (Heap.get?_push_of_some _ ?_)
  rw [Heap.get?_update_other _ _ (Ne.symm hne)]
  exact e
theorem sorted_hc {h:Heap} {x:Obj} (hx:x=seqObj "list" (List.toArray []) 0) {out:Array Value}:∃ c,(sortedHeap (h.push x) h.objs.size [] out).get? h.objs.size=some (seqObj "list" out c):=by
  subst hx
  exact sortedHeap_at (n:=0) (Heap.get?_push_size _ rfl)
set_option maxHeartbeats 4000000 in
theorem p_sorted0 (hh:A.handled=none) (C:Conc w.params g s.heap ι δ H) {d:Addr} {k:Nat} (h1:d≠sysModules) (hd:ι[k]?=some d) (ho:H[k]?=some .dict0)
    (K:Ret w.params g s ι (H++[.list []]) (.ref H.length) Q):wpAny (model pg w) A (call (.builtin "sorted") [.ref d]) Q E s:=by
  obtain ⟨b,dd,e1,e2,rfl,hg⟩:=C.ob k _ ho
  rw [hd] at e1
  cases e1
  have hat:s.heap.DictAt (intKind pg w) d [] 0:=⟨_,_,hg,⟨rfl,rfl,rfl⟩,rfl,fun _ he=>(Array.not_mem_empty _ he).elim,.nil,.nil⟩
  refine call_function_entry kind_sorted plain_sorted entry_sorted (args_sorted1 _) ?_
  unfold Builtin.«sorted»
  refine wpAny_bind (m:=checkCount "sorted" 1 1 _) (wpAny_pure ?_)
  refine wpAny_bind (kdu_collect (A:=A.in1) (kdl_dict (knd:=intKind pg w) (kvs:=[]) (ep:=0) (by simpa using h1)) hh hat (Nat.zero_le _) fun h' tk acc hk hacc=>?_)
  have hl:acc.toList=[]:=List.length_eq_zero_iff.mp (by rw [Array.length_toList]; exact hacc.1)
  refine wpAny_bind (wpAny_newList ?_ (by rw [hl]; exact Nat.zero_le _))
  rw [hl]
  refine wpAny_bind (wpAny_holding ?_)
  refine wpAny_call_entry PyProof.Rows.slot_list_sort ⟨_,Heap.get?_push_size _ rfl,rfl⟩ PyProof.Rows.entry_list_sort (list_sort_tree (n:=0) (vs:=[]) (ns:=[]) (Heap.get?_push_size _ rfl) .nil (by simp) fun out ns' hI hp hP=>⟨.none,rfl,?_⟩) (PyProof.Rows.args_list_sort _)
  refine wpAny_pure ⟨_,rfl,?_⟩
  obtain rfl:ns'=[]:=hp.eq_nil
  have ho':out.toList=[]:=List.length_eq_zero_iff.mp hI.length
  obtain ⟨c,hc⟩:=sorted_hc (h:=h') (x:={ cls:=.type "list",data:=.seq ([]:List Value).toArray }) rfl (out:=out)
  have fr:=fresh_of hk
  refine K _ _ _ _ (C.alloc' (a:=h'.objs.size) fr (fun b o e=>sortedHeap_keep ?_ (Heap.get?_push_of_some _ (hk _ _ e))) ⟨rfl,out.toList,c,by simpa using hc,by rw [ho']; exact .nil⟩) (List.prefix_append _ _) (vr_new C.li) ⟨rfl,rfl⟩
  rintro rfl
  rw [fr] at e
  cases e
noncomputable def ledger (h g₀:Heap) (L dx:Addr):List (Addr×Obj):=(List.range h.objs.size).filterMap fun a=>if a=L∨a=dx∨(g₀.get? a).isSome then none else (h.get? a).map (a,·)
theorem mem_ledger {h:Heap} {dx:Addr} {p:Addr×Obj}:p∈ledger h g₀ L dx↔h.get? p.1=some p.2∧p.1≠L∧p.1≠dx∧g₀.get? p.1=none:=by
  unfold ledger
  rw [List.mem_filterMap]
  constructor
  · rintro ⟨a,_,e⟩
    refine ifn_i e fun q e=>map_i e fun o h1 e=>?_
    subst e
    exact ⟨h1,fun z=>q (.inl z),fun z=>q (.inr (.inl z)),Option.not_isSome_iff_eq_none.mp fun z=>q (.inr (.inr z))⟩
  · rintro ⟨h1,h2,h3,h4⟩
    refine ⟨p.1,List.mem_range.mpr (Heap.lt_size h1),?_⟩
    rw [if_neg (fun z=>z.elim h2 fun z=>z.elim h3 fun z=>by rw [h4] at z; cases z),h1]
    rfl
noncomputable def setF (x:AV) (n:Str) (v:AV) (H:Hp):Option Hp:=asRef x fun k=>atInst H[k]? fun c fs=>if atab.any (fun q=>q.1 == c && q.2.contains n) && fs.length<900 then some (H.set k (.inst c (fput n v fs))) else none
theorem fput_len (x:Str) (v:AV):∀ fs:List (Str×AV),(fput x v fs).length≤fs.length+1:=by
  intro fs
  induction fs with
  | nil=>exact Nat.le_refl _
  | cons p r ih=>
    show (if p.1 == x then (p.1,v)::r else p::fput x v r).length≤_
    cases p.1 == x
    · exact Nat.succ_le_succ ih
    · exact Nat.le_succ _
theorem fput_mem {x:Str} {v:AV} {p:Str×AV}:∀ {fs:List (Str×AV)},p∈fput x v fs→p.1=x∨∃ q∈fs,q.1=p.1:=by
  intro fs
  induction fs with
  | nil=>exact fun h=>.inl (by rw [List.mem_singleton.mp h])
  | cons q r ih=>
    intro h
    have h:p∈(if q.1 == x then (q.1,v)::r else q::fput x v r):=h
    cases e:q.1 == x <;> rw [e] at h <;> rcases List.mem_cons.mp h with rfl | h
    · exact .inr ⟨p,.head _,rfl⟩
    · exact (ih h).imp id fun ⟨q',h1,h2⟩=>⟨q',.tail _ h1,h2⟩
    · exact .inr ⟨q,.head _,rfl⟩
    · exact .inr ⟨p,.tail _ h,rfl⟩
theorem attr_tab {c:Nat} {n:Str} (h:atab.any (fun q=>q.1 == c && q.2.contains n)=true):attrB w.params c n=true:=by
  obtain ⟨q,hq,e⟩:=List.any_eq_true.mp h
  obtain ⟨e1,e2⟩:=Bool.and_eq_true_iff.mp e
  have:=List.all_eq_true.mp (List.all_eq_true.mp (atab_ok w.params) q hq) n (by simpa using e2)
  rw [eq_of_beq e1] at this
  exact this
theorem p_setF (S:Stat w g₀) (F:Fr g₀ L s.heap m) (C:Conc w.params g s.heap ι δ H) (hL:L ∉ owned ι δ) (gL:g.get? L=none) (g0:∀ (b:Addr) (o:Obj),g₀.get? b=some o→g.get? b=some o)
    {x y:AV} {x' y':Value} {n:Str} (rx:VR ι x' x) (ry:VR ι y' y) (e:setF x n y H=some H') {Q:Unit→Shared→Prop}
    (K:∀ s',Fr g₀ L s'.heap m→Conc w.params g s'.heap ι δ H'→Rest s s'→Q () s'):wpAny (model pg w) A (setAttr x' n y') Q E s:=by
  refine vRE rx e fun k a ha e=>atInst_i e fun c fs ho e=>if_i e fun hc e=>C.inst ha ho fun dx es n' hd g1 g2 q I t=>?_
  cases e
  obtain ⟨hc,hlen⟩:=Bool.and_eq_true_iff.mp hc
  have O:=attrOk_of (attr_tab (w:=w) hc)
  have ndx:dx≠L:=fun z=>hL (z ▸ mem_owned.mpr (.inr ⟨_,hd⟩))
  refine set_dict (news:=(dx,dictOf es n')::ledger s.heap g₀ L dx) F S.K (fun p hp=>?_) I rfl O.sa O.po O.tk O.hd (q.getS n) rfl
    (news':=(dx,dictOf (putL n (PyData.keyHash w.params n) (.str n (s.toks+1)) y' es) (putN n es n'))::ledger s.heap g₀ L dx) (.head fun p hp=>(mem_ledger.mp hp).2.2.1) ?_ fun h' F' N'=>?_
  · rcases List.mem_cons.mp hp with rfl | hp
    · refine ⟨g2,ndx,?_⟩
      cases qq:g₀.get? dx with
      | none=>rfl
      | some o=>exact absurd (mem_owned.mpr (.inr ⟨_,hd⟩)) (C.notOwned (g0 _ _ qq))
    · obtain ⟨h1,h2,h3,h4⟩:=mem_ledger.mp hp
      exact ⟨h1,h2,h4⟩
  · rw [(FRs.put (x:=n) (t:=s.toks+1) q ry).len]
    exact Nat.le_trans (fput_len n y fs) (Nat.le_trans (Nat.succ_le_succ (Nat.le_of_lt (of_decide_eq_true hlen))) (by decide))
  · have kp:∀ (b:Addr) (o:Obj),b≠dx→b≠L→s.heap.get? b=some o→h'.get? b=some o:=fun b o h1 h2 h3=>by
      cases qq:g₀.get? b with
      | some o'=>
        have h5:=F.keep b o' qq
        rw [h3] at h5
        exact Option.some.inj h5 ▸ F'.keep b o' qq
      | none=>exact (N' (b,o) (.tail _ (mem_ledger.mpr ⟨h3,h2,h1,qq⟩))).1
    refine K _ F' (C.turnL hL gL ha hd (.inr rfl) kp ⟨dx,_,_,rfl,kp _ _ (fun z=>C.di _ _ _ (z ▸ ha) hd) (fun z=>hL (z ▸ mem_owned.mpr (.inl ⟨_,ha⟩))) g1,(N' _ (.head _)).1,FRs.put q ry,fun p hp=>?_⟩) ⟨rfl,rfl⟩
    rcases fput_mem hp with z | ⟨p',z1,z2⟩
    · rw [z]; exact attr_tab hc
    · rw [← z2]; exact t p' z1
end
end Mine
end
section
open PySem PySem.W PyProof.Rows PySem.Calls
set_option Elab.async false
set_option linter.all false
set_option autoImplicit false
set_option maxRecDepth 10000
namespace Mine
noncomputable abbrev Loc:=Str→Option AV
noncomputable def ExtAt (g:Heap) (a:Addr) (l:List Int):Prop:=∃ vs n,g.get? a=some (listOf (List.toArray vs) n)∧VRs [] vs (l.map .int)
noncomputable def isExt:AV→Bool
  | .ext ..=>true
  | _=>false
noncomputable abbrev EX:=Loc→Hp→Option (AV×Hp)
structure EnvOk (env:Env) (cs:Scope) (L:Addr) (cl:List (Str×Addr)):Prop where
  sc:env.scope=cs
  lo:env.locals=L
  ce:env.cells=cl
  gl:env.globals=mainGlobals
  bu:env.builtins=builtinsNs
structure Cx (w:World) (g₀ g:Heap) (ι:List Addr) (env:Env) (cs:Scope) (cl:List (Str×Addr)) (L:Addr) (m:Str→Option Value) (ρ:Loc):Prop where
  ev:EnvOk env cs L cl
  S:Stat w g₀
  F:Fr g₀ L g m
  fn:cs.kind=.function
  ce:∀ (x:Str) (c:Addr),cl.lookup x=some c→∃ o,g.get? c=some o
  exx:∀ (x:Str) (a:Addr) (l:List Int),ρ x=some (.ext a l)→ExtAt g₀ a l
  lr:∀ (x:Str) (v:AV),ρ x=some v→∃ v',VR ι v' v∧
    ((cs.names.lookup x=some .local∧m x=some v')∨(∃ c o,(cs.names.lookup x=some .cell∨cs.names.lookup x=some .free)∧cl.lookup x=some c∧g.get? c=some o∧o.data=.cell (some v')))
theorem Cx.mono {env:Env} {w:World} {g₀ g:Heap} {ι ι':List Addr} {cs:Scope} {cl:List (Str×Addr)} {L:Addr} {m:Str→Option Value} {ρ:Loc} (X:Cx w g₀ g ι env cs cl L m ρ) (p:ι<+:ι'):Cx w g₀ g ι' env cs cl L m ρ:=
  { X with lr:=fun x v e=>let ⟨v',r,q⟩:=X.lr x v e; ⟨v',r.mono p,q⟩ }
theorem Cx.look {env:Env} {w:World} {g₀ g:Heap} {ι:List Addr} {cs:Scope} {cl:List (Str×Addr)} {L:Addr} {m:Str→Option Value} {ρ:Loc} (X:Cx w g₀ g ι env cs cl L m ρ) {x:Str} {v:AV} {G:Prop} (h:ρ x=some v)
    (K1:∀ v',VR ι v' v→cs.names.lookup x=some .local→m x=some v'→G) (K2:∀ v' c o,VR ι v' v→(cs.names.lookup x=some .cell∨cs.names.lookup x=some .free)→cl.lookup x=some c→g.get? c=some o→o.data=.cell (some v')→G):G:=by
  obtain ⟨v',r,⟨h1,h2⟩ | ⟨c,o,h1,h2,h3,h4⟩⟩:=X.lr x v h
  · exact K1 v' r h1 h2
  · exact K2 v' c o r h1 h2 h3 h4
theorem Ret.trans {Pm:Params} {g:Heap} {s s1:Shared} {ι ι1:List Addr} {H':Hp} {v:AV} {Q:Value→Shared→Prop} (K:Ret Pm g s ι H' v Q) (p:ι<+:ι1) (r:Rest s s1):Ret Pm g s1 ι1 H' v Q:=
  fun s' ι' δ' v' C q rv rr=>K s' ι' δ' v' C (p.trans q) rv (r.trans rr)
noncomputable def SE (cs:Scope) (n:Nat) (c:EX) (e:Expr):Prop:=
  ∀ (w:World) (g₀ g:Heap) (ι:List Addr) (δ:List (Option Addr)) (H:Hp) (m:Str→Option Value) (ρ:Loc) (env:Env) (L:Addr) (cl:List (Str×Addr)) (A:Around) (E:Value→Shared→Prop) (s:Shared) (Q:Value→Shared→Prop) (v:AV) (H':Hp),
    Cx w g₀ g ι env cs cl L m ρ→Room A n→Conc w.params g s.heap ι δ H→c ρ H=some (v,H')→Ret w.params g s ι H' v Q→wpAny (model pg w) A (eval e env) Q E s
noncomputable def ST (cs:Scope) (n:Nat) (c:EX) (e:Expr):Prop:=
  ∀ (w:World) (g₀ g:Heap) (ι:List Addr) (δ:List (Option Addr)) (H:Hp) (m:Str→Option Value) (ρ:Loc) (env:Env) (L:Addr) (cl:List (Str×Addr)) (A:Around) (E:Value→Shared→Prop) (s:Shared) (Q:Bool→Shared→Prop) (b:Bool) (H':Hp),
    Cx w g₀ g ι env cs cl L m ρ→Room A n→Conc w.params g s.heap ι δ H→c ρ H=some (.bool b,H')→Ret w.params g s ι H' .none (fun _ s'=>Q b s')→wpAny (model pg w) A (isTrue e env (eval e env)) Q E s
theorem st_of {cs:Scope} {n:Nat} {c:EX} {e:Expr} (h:SE cs n c e) (he:∀ (env:Env) (whole:Sem Value),isTrue e env whole=(do let v ← whole; standAt e.pos; holding [v] (truthy v))):ST cs n c e:=
  fun w g₀ g ι δ H m ρ env L cl A E s Q b H' X R C e1 K=>
    isTrue_plain (h w g₀ g ι δ H m ρ env L cl A E s _ _ _ X R C e1 fun s' ι' δ' v' C' p r rr=>vB r (wpAny_truthy_bool (K s' ι' δ' .none C' p .none rr))) (he _ _)
noncomputable def eConst (c:Const):EX:=fun _ H=>match c with
  | .none=>some (.none,H)
  | .bool b=>some (.bool b,H)
  | .int i=>some (.int i,H)
  | .str s=>some (.str s,H)
  | _=>none
theorem se_const {cs:Scope} {n:Nat} (c:Const) (k:Nat) (p:Pos):SE cs n (eConst c) (.Constant c k p):=by
  intro w g₀ g ι δ H m ρ env L cl A E s Q v H' X R C e K
  cases c with
  | none=>exact wpAny_Constant_none ((K.eqs e).here' C .none)
  | bool b=>exact wpAny_Constant_bool ((K.eqs e).here' C (.bool _))
  | int i=>exact wpAny_Constant_int (K.eqs e _ _ _ _ C (List.prefix_refl _) (.int _ _) ⟨rfl,rfl⟩)
  | str x=>exact wpAny_Constant_str (K.eqs e _ _ _ _ C (List.prefix_refl _) (.str _ _) ⟨rfl,rfl⟩)
  | _=>exact no_some e
noncomputable def eName (cs:Scope) (x:Str):EX:=fun ρ H=>
  if x == ("__debug__" : Str) || x == ("__classdict__" : Str) then none else
  if cs.names.lookup x == some .globalImplicit then (itab.lookup x).map fun i=>(.int i,H)
  else (ρ x).map fun v=>(v,H)
theorem lookup_mem {α:Type} [BEq α] [LawfulBEq α] {β:Type} {a:α} {b:β}:∀ {l:List (α×β)},l.lookup a=some b→(a,b)∈l:=by
  intro l
  induction l with
  | nil=>exact no_some
  | cons p l ih=>
    intro h
    rw [List.lookup_cons] at h
    cases q:a == p.1 with
    | true=>rw [q] at h; rw [eq_of_beq q,← Option.some.inj h]; exact .head _
    | false=>rw [q] at h; exact .tail _ (ih h)
theorem int_glob {Pm:Params} {x:Str} {i:Int} (h:itab.lookup x=some i):∃ t,nsIn (KK Pm) mainGlobals x=some (some (.int i t)):=by
  have:=List.all_eq_true.mp (itab_ok Pm) _ (lookup_mem h)
  unfold intB at this
  split at this
  · rename_i j t e
    exact ⟨t,by rw [e,eq_of_beq this]⟩
  · cases this
section
variable {w:World} {A:Around} {E:Value→Shared→Prop} {s:Shared} {h₀:Heap} {L:Addr} {m mg mb:Str→Option Value} {env:Env} {cs:Scope} {cl:List (Str×Addr)} {x:Str} {pos:Pos} {v:Value} {Q:Value→Shared→Prop} {K:Frag} {p:Program} {loose:List Str}
theorem name_K (ev:EnvOk env cs L cl) (fn:cs.kind=.function) (F:Fr h₀ L s.heap m) (X:K.In h₀) (T:TopRead p loose mg mb h₀) (e:nsIn K mainGlobals x=some (some v)) (h:Q v s) (hx:cs.names.lookup x=some .globalImplicit) (hd:(x == ("__debug__" : Str))=false) :
    wpAny (model pg w) A (eval (.Name x pos) env) Q E s:=by
  obtain ⟨rfl,rfl,rfl,gl,bu⟩:=ev
  exact Name_function_global fn hx (loadGlobal_global (env:=env) (by rw [gl]; exact T.g.keeps F.keep) (mg_of X T.g e) h) hd
theorem name_B (ev:EnvOk env cs L cl) (fn:cs.kind=.function) (F:Fr h₀ L s.heap m) (X:K.In h₀) (T:TopRead p loose mg mb h₀) (e:nsIn K mainGlobals x=some none) (hv:bootBuiltins x=some v) (hn:x ≠ "__name__") (h:Q v s) (hx:cs.names.lookup x=some .globalImplicit) (hd:(x == ("__debug__" : Str))=false) :
    wpAny (model pg w) A (eval (.Name x pos) env) Q E s:=by
  obtain ⟨rfl,rfl,rfl,gl,bu⟩:=ev
  exact Name_function_global fn hx (loadGlobal_builtin (env:=env) (by rw [gl]; exact T.g.keeps F.keep) (mg_none_of X T.g e) (by rw [bu]; exact T.b.keeps F.keep) ((T.builtins x hn).trans hv) h) hd
theorem name_L (ev:EnvOk env cs L cl) (fn:cs.kind=.function) (F:Fr h₀ L s.heap m) (hv:m x=some v) (h:Q v s) (hx:cs.names.lookup x=some .local) (hd:(x == ("__debug__" : Str))=false) :
    wpAny (model pg w) A (eval (.Name x pos) env) Q E s:=by
  obtain ⟨rfl,rfl,rfl,gl,bu⟩:=ev
  exact wpAny_Name (wpAny_loadName_local fn hx F.ns hv h) hd
theorem name_C (ev:EnvOk env cs L cl) (fn:cs.kind=.function) {c:Addr} {o:Obj} (hc:cl.lookup x=some c) (ho:s.heap.get? c=some o) (hd:o.data=.cell (some v)) (h:Q v s) (hx:cs.names.lookup x=some .cell∨cs.names.lookup x=some .free) (hb:(x == ("__debug__" : Str))=false) (hn:(x == ("__classdict__" : Str))=false) :
    wpAny (model pg w) A (eval (.Name x pos) env) Q E s:=by
  obtain ⟨rfl,rfl,rfl,gl,bu⟩:=ev
  rcases hx with hx | hx
  · exact wpAny_Name (wpAny_loadName_cell fn hx hc ⟨o,ho,hd⟩ h) hb
  · exact wpAny_Name (wpAny_loadName_free fn hx hc ⟨o,ho,hd⟩ h hn) hb
end
theorem se_name {cs:Scope} {n:Nat} (x:Str) (p:Pos):SE cs n (eName cs x) (.Name x p):=by
  intro w g₀ g ι δ H m ρ env L cl A E s Q v H' X R C e K
  refine ifn_i e fun hx e=>?_
  rw [Bool.or_eq_true,not_or,Bool.not_eq_true,Bool.not_eq_true] at hx
  have F:Fr g₀ L s.heap m:=X.F.keeps C.keep
  by_cases hk:(cs.names.lookup x == some .globalImplicit)=true
  · rw [if_pos hk] at e
    refine map_i e fun i h1 h2=>?_
    obtain ⟨t,ht⟩:=int_glob (Pm:=w.params) h1
    obtain ⟨mg,mb,T⟩:=X.S.top
    exact name_K X.ev X.fn F X.S.K T ht ((K.eqp h2).here' C (.int _ _)) (eq_of_beq hk) hx.1
  · rw [if_neg hk] at e
    exact map_i e fun v' h1 h2=>X.look h1 (fun u r h3 h4=>name_L X.ev X.fn F h4 ((K.eqp h2).here' C r) h3 hx.1) (fun u c o r h3 h4 h5 h6=>name_C X.ev X.fn h4 (C.keep _ _ h5) h6 ((K.eqp h2).here' C r) h3 hx.1 hx.2)
noncomputable def baseOk (e:Expr):Bool:=e.ctorIdx == 20 || e.ctorIdx == 21 || e.ctorIdx == 23
theorem attr_any {o:Expr} {x:Str} {p:Pos} {env:Env} (hb:baseOk o=true):eval (.Attribute o x p) env=(do
      let v ← eval o env
      standAt p.atName
      let r ← holding [v] (getAttr v x true)
      letTemporaryGo o v r
      pure r):=by
  cases o <;> first | rfl | exact (Bool.false_ne_true hb).elim
noncomputable def eAttr (c:EX) (x:Str):EX:=fun ρ H=>oRef (c ρ H) fun k H1=>atInst H1[k]? fun _ fs=>(fget x fs).map fun v=>(v,H1)
theorem se_attr {cs:Scope} {n:Nat} {c:EX} {o:Expr} (x:Str) (p:Pos) (hb:baseOk o=true) (h:SE cs n c o):SE cs n (eAttr c x) (.Attribute o x p):=
  fun w g₀ g ι δ H m ρ env L cl A E s Q v H' X R C e K=>oRef_i e fun k H1 e1 e=>atInst_i e fun cc fs ho e=>map_i e fun v1 h1 h2=>
    Attribute_any_ (h w g₀ g ι δ H m ρ env L cl A E s _ _ _ X R C e1 fun s1 ι1 δ1 v' C1 p1 r rr=>vR r fun ad ha=>p_attr X.S (X.F.keeps C1.keep) C1 ha ho h1 ((K.eqp h2).trans p1 rr)) (attr_any hb)
noncomputable def eBin (op:Operator) (c d:EX):EX:=fun ρ H=>oB (c ρ H) fun x H1=>oB (d ρ H1) fun y H2=>binop op x y H2
theorem se_bin {cs:Scope} {n:Nat} {c d:EX} {l r:Expr} (op:Operator) (p:Pos) (hc:SE cs n c l) (hd:SE cs n d r):SE cs n (eBin op c d) (.BinOp l op r p):=
  fun w g₀ g ι δ H m ρ env L cl A E s Q v H' X R C e K=>oB_i e fun x H1 e1 e=>oB_i e fun y H2 e2 e=>
    wpAny_BinOp (hc w g₀ g ι δ H m ρ env L cl A E s _ _ _ X R C e1 fun s1 ι1 δ1 v1 C1 p1 r1 q1=>
      hd w g₀ g ι1 δ1 H1 m ρ env L cl A E s1 _ _ _ (X.mono p1) R C1 e2 fun s2 ι2 δ2 v2 C2 p2 r2 q2=>
        p_binop C2 (r1.mono p2) r2 e ((K.trans p1 q1).trans p2 q2))
noncomputable def eCmp (op:CmpOp) (c d:EX):EX:=fun ρ H=>oB (c ρ H) fun x H1=>oB (d ρ H1) fun y H2=>(cmpop op x y H2).map fun b=>(.bool b,H2)
noncomputable def noSet (e:Expr):Bool:=e.ctorIdx != 7
theorem noSet_marks {op:CmpOp} {r:Expr} (h:noSet r=true):behindInMarks op r=false:=by cases r <;> first | rfl | exact (Bool.false_ne_true h).elim
theorem Room.u64 {A:Around} {n:Nat} (R:Room A n):A.units+64<cLine:=Nat.lt_of_le_of_lt (Nat.add_le_add (Nat.le_add_right _ _) (by decide)) R.u
theorem se_cmp {cs:Scope} {n:Nat} {c d:EX} {l r:Expr} (op:CmpOp) (p:Pos) (hn:noSet r=true) (hc:SE cs n c l) (hd:SE cs n d r):SE cs n (eCmp op c d) (.Compare l [op] [r] p):=
  fun w g₀ g ι δ H m ρ env L cl A E s Q v H' X R C e K=>oB_i e fun x H1 e1 e=>oB_i e fun y H2 e2 e=>map_i e fun b h1 h2=>
    wpAny_Compare1 (hc w g₀ g ι δ H m ρ env L cl A E s _ _ _ X R C e1 fun s1 ι1 δ1 v1 C1 p1 r1 q1=>
      hd w g₀ g ι1 δ1 H1 m ρ env L cl A E s1 _ _ _ (X.mono p1) R C1 e2 fun s2 ι2 δ2 v2 C2 p2 r2 q2=>
        p_cmp C2 R.u64 (r1.mono p2) r2 h1 ((((K.eqp h2).trans p1 q1).trans p2 q2).here' C2 (.bool _))) (noSet_marks hn)
noncomputable def eNot (c:EX):EX:=fun ρ H=>oBool (c ρ H) fun b H1=>some (.bool (!b),H1)
noncomputable def eNeg (c:EX):EX:=fun ρ H=>oInt (c ρ H) fun i H1=>some (.int (-i),H1)
noncomputable def eIf (t c d:EX):EX:=fun ρ H=>oBool (t ρ H) fun b H1=>if b then c ρ H1 else d ρ H1
theorem se_if {cs:Scope} {n:Nat} {t c d:EX} {te be oe:Expr} (p:Pos) (ht:ST cs n t te) (hc:SE cs n c be) (hd:SE cs n d oe):SE cs n (eIf t c d) (.IfExp te be oe p):=
  fun w g₀ g ι δ H m ρ env L cl A E s Q v H' X R C e K=>oBool_i e fun b H1 e1 e=>
    wpAny_IfExp (ht w g₀ g ι δ H m ρ env L cl A E s _ _ _ X R C e1 fun s1 ι1 δ1 v1 C1 p1 r1 q1=>by
      cases b
      · exact hd w g₀ g ι1 δ1 H1 m ρ env L cl A E s1 _ _ _ (X.mono p1) R C1 e (K.trans p1 q1)
      · exact hc w g₀ g ι1 δ1 H1 m ρ env L cl A E s1 _ _ _ (X.mono p1) R C1 e (K.trans p1 q1))
theorem st_if {cs:Scope} {n:Nat} {t c d:EX} {te be oe:Expr} (p:Pos) (ht:ST cs n t te) (hc:ST cs n c be) (hd:ST cs n d oe):ST cs n (eIf t c d) (.IfExp te be oe p):=
  fun w g₀ g ι δ H m ρ env L cl A E s Q v H' X R C e K=>oBool_i e fun b H1 e1 e=>
    isTrue_IfExp (ht w g₀ g ι δ H m ρ env L cl A E s _ _ _ X R C e1 fun s1 ι1 δ1 v1 C1 p1 r1 q1=>by
      cases b
      · exact hd w g₀ g ι1 δ1 H1 m ρ env L cl A E s1 _ _ _ (X.mono p1) R C1 e (K.trans p1 q1)
      · exact hc w g₀ g ι1 δ1 H1 m ρ env L cl A E s1 _ _ _ (X.mono p1) R C1 e (K.trans p1 q1))
theorem st_not {cs:Scope} {n:Nat} {c:EX} {x:Expr} (p:Pos) (hc:ST cs n c x):ST cs n (eNot c) (.UnaryOp .Not x p):=
  fun w g₀ g ι δ H m ρ env L cl A E s Q v H' X R C e K=>oBool_i e fun b H1 e1 e=>isTrue_not (hc w g₀ g ι δ H m ρ env L cl A E s _ _ _ X R C e1 (K.eqb e))
end Mine
end
section
open PySem PySem.W PyProof.Rows PySem.Calls
set_option Elab.async false
set_option linter.all false
set_option autoImplicit false
set_option maxRecDepth 10000
namespace Mine
theorem se_not {cs:Scope} {n:Nat} {c:EX} {x:Expr} (p:Pos) (hc:SE cs n c x):SE cs n (eNot c) (.UnaryOp .Not x p):=
  fun w g₀ g ι δ H m ρ env L cl A E s Q v H' X R C e K=>oBool_i e fun b H1 e1 e=>
    wpAny_UnaryOp (hc w g₀ g ι δ H m ρ env L cl A E s _ _ _ X R C e1 fun s1 ι1 δ1 v1 C1 p1 r1 q1=>vB r1
      (wpAny_bind (wpAny_truthy_bool (wpAny_pure (K.eqs e _ _ _ _ C1 p1 (.bool _) q1)))))
theorem se_neg {cs:Scope} {n:Nat} {c:EX} {x:Expr} (p:Pos) (hc:SE cs n c x):SE cs n (eNeg c) (.UnaryOp .USub x p):=
  fun w g₀ g ι δ H m ρ env L cl A E s Q v H' X R C e K=>oInt_i e fun b H1 e1 e=>
    wpAny_UnaryOp (hc w g₀ g ι δ H m ρ env L cl A E s _ _ _ X R C e1 fun s1 ι1 δ1 v1 C1 p1 r1 q1=>vI r1 fun t=>
      PySem.P.neg_int (K.eqs e _ _ _ _ C1 p1 (.int _ _) ⟨q1.1,q1.2⟩))
noncomputable def eAnd (c:EX) (last:Bool) (r:EX):EX:=fun ρ H=>oBool (c ρ H) fun b H1=>if !last && b then r ρ H1 else some (.bool b,H1)
noncomputable def eOr (c:EX) (last:Bool) (r:EX):EX:=fun ρ H=>oBool (c ρ H) fun b H1=>if !last && !b then r ρ H1 else some (.bool b,H1)
noncomputable def eAll:List EX→EX
  | []=>fun _ _=>none
  | c::cs=>eAnd c cs.isEmpty (eAll cs)
noncomputable def eAny:List EX→EX
  | []=>fun _ _=>none
  | c::cs=>eOr c cs.isEmpty (eAny cs)
inductive SEs (cs:Scope) (n:Nat):List EX→List Expr→Prop
  | nil:SEs cs n [] []
  | cons {c:EX} {e:Expr} {l:List EX} {es:List Expr}:SE cs n c e→ST cs n c e→SEs cs n l es→SEs cs n (c::l) (e::es)
theorem se_all {cs:Scope} {n:Nat} (p:Pos) {l:List EX} {es:List Expr} (h:SEs cs n l es):SE cs n (eAll l) (.BoolOp .And es p)∧(l≠[]→ST cs n (eAll l) (.BoolOp .And es p)):=by
  induction h with
  | nil=>exact ⟨fun w g₀ g ι δ H m ρ env L cl A E s Q v H' X R C e K=>no_some e,fun q=>absurd rfl q⟩
  | @cons c x l es h1 h2 h3 ih=>
    cases h3 with
    | nil=>
      refine ⟨fun w g₀ g ι δ H m ρ env L cl A E s Q v H' X R C e K=>oBool_i e fun b H1 e1 e=>BoolOp_one (h1 w g₀ g ι δ H m ρ env L cl A E s _ _ _ X R C e1 (K.eqs e)),
        fun _ w g₀ g ι δ H m ρ env L cl A E s Q v H' X R C e K=>oBool_i e fun b H1 e1 e=>isTrue_and (h2 w g₀ g ι δ H m ρ env L cl A E s _ _ _ X R C e1 fun s1 ι1 δ1 v1 C1 p1 r1 q1=>?_)⟩
      cases b
      · exact K.eqb e _ _ _ _ C1 p1 r1 q1
      · exact isTrue_and_nil (K.eqb e _ _ _ _ C1 p1 r1 q1)
    | @cons d y l es k1 k2 k3=>
      refine ⟨fun w g₀ g ι δ H m ρ env L cl A E s Q v H' X R C e K=>oBool_i e fun b H1 e1 e=>BoolOp_and (h1 w g₀ g ι δ H m ρ env L cl A E s _ _ _ X R C e1 fun s1 ι1 δ1 v1 C1 p1 r1 q1=>vB r1 (wpAny_truthy_bool ?_)),
        fun _ w g₀ g ι δ H m ρ env L cl A E s Q v H' X R C e K=>oBool_i e fun b H1 e1 e=>isTrue_and (h2 w g₀ g ι δ H m ρ env L cl A E s _ _ _ X R C e1 fun s1 ι1 δ1 v1 C1 p1 r1 q1=>?_)⟩
      · cases b
        · exact K.eqb e _ _ _ _ C1 p1 r1 q1
        · exact ih.2 (fun q=>nomatch q) w g₀ g ι1 δ1 H1 m ρ env L cl A E s1 _ _ _ (X.mono p1) R C1 e (K.trans p1 q1)
      · cases b
        · exact K.eqs e _ _ _ _ C1 p1 (.bool _) q1
        · exact ih.1 w g₀ g ι1 δ1 H1 m ρ env L cl A E s1 _ _ _ (X.mono p1) R C1 e (K.trans p1 q1)
theorem se_any {cs:Scope} {n:Nat} (p:Pos) {l:List EX} {es:List Expr} (h:SEs cs n l es):SE cs n (eAny l) (.BoolOp .Or es p)∧(l≠[]→ST cs n (eAny l) (.BoolOp .Or es p)):=by
  induction h with
  | nil=>exact ⟨fun w g₀ g ι δ H m ρ env L cl A E s Q v H' X R C e K=>no_some e,fun q=>absurd rfl q⟩
  | @cons c x l es h1 h2 h3 ih=>
    cases h3 with
    | nil=>
      refine ⟨fun w g₀ g ι δ H m ρ env L cl A E s Q v H' X R C e K=>oBool_i e fun b H1 e1 e=>BoolOp_one (h1 w g₀ g ι δ H m ρ env L cl A E s _ _ _ X R C e1 (K.eqs e)),
        fun _ w g₀ g ι δ H m ρ env L cl A E s Q v H' X R C e K=>oBool_i e fun b H1 e1 e=>isTrue_or (h2 w g₀ g ι δ H m ρ env L cl A E s _ _ _ X R C e1 fun s1 ι1 δ1 v1 C1 p1 r1 q1=>?_)⟩
      cases b
      · exact isTrue_or_nil (K.eqb e _ _ _ _ C1 p1 r1 q1)
      · exact K.eqb e _ _ _ _ C1 p1 r1 q1
    | @cons d y l es k1 k2 k3=>
      refine ⟨fun w g₀ g ι δ H m ρ env L cl A E s Q v H' X R C e K=>oBool_i e fun b H1 e1 e=>BoolOp_or (h1 w g₀ g ι δ H m ρ env L cl A E s _ _ _ X R C e1 fun s1 ι1 δ1 v1 C1 p1 r1 q1=>vB r1 (wpAny_truthy_bool ?_)),
        fun _ w g₀ g ι δ H m ρ env L cl A E s Q v H' X R C e K=>oBool_i e fun b H1 e1 e=>isTrue_or (h2 w g₀ g ι δ H m ρ env L cl A E s _ _ _ X R C e1 fun s1 ι1 δ1 v1 C1 p1 r1 q1=>?_)⟩
      · cases b
        · exact ih.2 (fun q=>nomatch q) w g₀ g ι1 δ1 H1 m ρ env L cl A E s1 _ _ _ (X.mono p1) R C1 e (K.trans p1 q1)
        · exact K.eqb e _ _ _ _ C1 p1 r1 q1
      · cases b
        · exact ih.1 w g₀ g ι1 δ1 H1 m ρ env L cl A E s1 _ _ _ (X.mono p1) R C1 e (K.trans p1 q1)
        · exact K.eqs e _ _ _ _ C1 p1 (.bool _) q1
theorem st_cmp {cs:Scope} {n:Nat} {c d:EX} {l r:Expr} (op:CmpOp) (p:Pos) (hn:noSet r=true) (hc:SE cs n c l) (hd:SE cs n d r):ST cs n (eCmp op c d) (.Compare l [op] [r] p):=
  fun w g₀ g ι δ H m ρ env L cl A E s Q v H' X R C e K=>oB_i e fun x H1 e1 e=>oB_i e fun y H2 e2 e=>map_i e fun b h1 h2=>
    wpAny_isTrue_Compare1 (hc w g₀ g ι δ H m ρ env L cl A E s _ _ _ X R C e1 fun s1 ι1 δ1 v1 C1 p1 r1 q1=>
      hd w g₀ g ι1 δ1 H1 m ρ env L cl A E s1 _ _ _ (X.mono p1) R C1 e2 fun s2 ι2 δ2 v2 C2 p2 r2 q2=>
        p_cmp C2 R.u64 (r1.mono p2) r2 h1 (wpAny_truthy_bool ((((K.eqb (congrArg some h2)).trans p1 q1).trans p2 q2).here' C2 .none))) (noSet_marks hn)
noncomputable def eCmp2 (op op':CmpOp) (c d d':EX):EX:=fun ρ H=>oB (c ρ H) fun x H1=>oB (d ρ H1) fun y H2=>(cmpop op x y H2).bind fun b=>
  if b then oB (d' ρ H2) fun z H3=>(cmpop op' y z H3).map fun b=>(.bool b,H3) else some (.bool false,H2)
theorem noSet_last {op op':CmpOp} {r r':Expr} (h':noSet r'=true):lastMarks [op,op'] [r,r']=false:=noSet_marks h'
theorem se_cmp2 {cs:Scope} {n:Nat} {c d d':EX} {l r r':Expr} (op op':CmpOp) (p:Pos) (hn:noSet r'=true) (hc:SE cs n c l) (hd:SE cs n d r) (hd':SE cs n d' r'):SE cs n (eCmp2 op op' c d d') (.Compare l [op,op'] [r,r'] p):=
  fun w g₀ g ι δ H m ρ env L cl A E s Q v H' X R C e K=>oB_i e fun x H1 e1 e=>oB_i e fun y H2 e2 e=>bind_i e fun b e3 e=>
    Compare_chain (hc w g₀ g ι δ H m ρ env L cl A E s _ _ _ X R C e1 fun s1 ι1 δ1 v1 C1 p1 r1 q1=>
      chain_link (hd w g₀ g ι1 δ1 H1 m ρ env L cl A E s1 _ _ _ (X.mono p1) R C1 e2 fun s2 ι2 δ2 v2 C2 p2 r2 q2=>
        p_cmp C2 R.u64 (r1.mono p2) r2 e3 (wpAny_truthy_bool (by
          cases b
          · exact (((K.eqs e).trans p1 q1).trans p2 q2).here' C2 (.bool _)
          · exact oB_i e fun z H3 e4 e=>map_i e fun b h1 h2=>chain_last (hd' w g₀ g ι2 δ2 H2 m ρ env L cl A E s2 _ _ _ (X.mono (p1.trans p2)) R C2 e4 fun s3 ι3 δ3 v3 C3 p3 r3 q3=>
              p_cmp C3 R.u64 (r2.mono p3) r3 h1 (((((K.eqp h2).trans p1 q1).trans p2 q2).trans p3 q3).here' C3 (.bool _)))))) ) (noSet_last hn)
theorem st_cmp2 {cs:Scope} {n:Nat} {c d d':EX} {l r r':Expr} (op op':CmpOp) (p:Pos) (hn:noSet r'=true) (hc:SE cs n c l) (hd:SE cs n d r) (hd':SE cs n d' r'):ST cs n (eCmp2 op op' c d d') (.Compare l [op,op'] [r,r'] p):=
  fun w g₀ g ι δ H m ρ env L cl A E s Q v H' X R C e K=>oB_i e fun x H1 e1 e=>oB_i e fun y H2 e2 e=>bind_i e fun b e3 e=>
    isTrue_chain (hc w g₀ g ι δ H m ρ env L cl A E s _ _ _ X R C e1 fun s1 ι1 δ1 v1 C1 p1 r1 q1=>
      test_link (hd w g₀ g ι1 δ1 H1 m ρ env L cl A E s1 _ _ _ (X.mono p1) R C1 e2 fun s2 ι2 δ2 v2 C2 p2 r2 q2=>
        p_cmp C2 R.u64 (r1.mono p2) r2 e3 (wpAny_truthy_bool (by
          cases b
          · exact (((K.eqb e).trans p1 q1).trans p2 q2).here' C2 .none
          · exact oB_i e fun z H3 e4 e=>map_i e fun b h1 h2=>test_last (hd' w g₀ g ι2 δ2 H2 m ρ env L cl A E s2 _ _ _ (X.mono (p1.trans p2)) R C2 e4 fun s3 ι3 δ3 v3 C3 p3 r3 q3=>
              p_cmp C3 R.u64 (r2.mono p3) r3 h1 (wpAny_truthy_bool (((((K.eqb (congrArg some h2)).trans p1 q1).trans p2 q2).trans p3 q3).here' C3 .none)))))) ) (noSet_last hn)
noncomputable def eArgs:List EX→Loc→Hp→Option (List AV×Hp)
  | [],_,H=>some ([],H)
  | c::cs,ρ,H=>oB (c ρ H) fun v H1=>oB (eArgs cs ρ H1) fun vs H2=>some (v::vs,H2)
noncomputable def noStar (e:Expr):Bool:=e.ctorIdx != 22
theorem starEach_cons {e:Expr} {es:List Expr} {env:Env} (h:noStar e=true):starEach (e::es) env=(false,eval e env)::starEach es env:=by
  cases e <;> first | rfl | exact (Bool.false_ne_true h).elim
theorem sp_args {cs:Scope} {n:Nat} {pos:Pos} {l:List EX} {es:List Expr} (h:SEs cs n l es) (hs:es.all noStar=true) :
    ∀ (w:World) (g₀ g:Heap) (ι:List Addr) (δ:List (Option Addr)) (H:Hp) (m:Str→Option Value) (ρ:Loc) (env:Env) (L:Addr) (cl:List (Str×Addr)) (A:Around) (E:Value→Shared→Prop) (s:Shared) (Q:List Value→Shared→Prop) (vs:List AV) (H':Hp),
    Cx w g₀ g ι env cs cl L m ρ→Room A n→Conc w.params g s.heap ι δ H→eArgs l ρ H=some (vs,H')→
    (∀ (s':Shared) (ι':List Addr) (δ':List (Option Addr)) (vs':List Value),Conc w.params g s'.heap ι' δ' H'→ι<+:ι'→VRs ι' vs' vs→Rest s s'→Q vs' s')→
    wpAny (model pg w) A (spliced (backTo pos (starEach es env))) Q E s:=by
  induction h with
  | nil=>
    intro w g₀ g ι δ H m ρ env L cl A E s Q v H' X R C e K
    cases e
    exact spliced_nil (K _ _ _ _ C (List.prefix_refl _) .nil (Rest.refl _))
  | @cons c x l es h1 _ h3 ih=>
    intro w g₀ g ι δ H m ρ env L cl A E s Q v H' X R C e K
    rw [List.all_cons,Bool.and_eq_true] at hs
    rw [starEach_cons hs.1]
    refine oB_i e fun v1 H1 e1 e=>oB_i e fun vs H2 e2 e=>?_
    cases e
    exact spliced_cons (h1 w g₀ g ι δ H m ρ env L cl A E s _ _ _ X R C e1 fun s1 ι1 δ1 v1' C1 p1 r1 q1=>
      ih hs.2 w g₀ g ι1 δ1 H1 m ρ env L cl A E s1 _ _ _ (X.mono p1) R C1 e2 fun s2 ι2 δ2 vs' C2 p2 r2 q2=>K _ _ _ _ C2 (p1.trans p2) (.cons (r1.mono p2) r2) (q1.trans q2))
noncomputable def eList (l:List EX):EX:=fun ρ H=>oB (eArgs l ρ H) fun vs H1=>if vs.length≤1000000 then some (.ref H1.length,H1++[.list vs]) else none
noncomputable def eTup (l:List EX):EX:=fun ρ H=>oB (eArgs l ρ H) fun vs H1=>if vs.length≤1000000 then some (.ref H1.length,H1++[.tup vs]) else none
noncomputable def eDict0:EX:=fun _ H=>some (.ref H.length,H++[.dict0])
theorem se_list {cs:Scope} {n:Nat} {l:List EX} {es:List Expr} (p:Pos) (h:SEs cs n l es) (hs:es.all noStar=true):SE cs n (eList l) (.List es p):=
  fun w g₀ g ι δ H m ρ env L cl A E s Q v H' X R C e K=>oB_i e fun vs H1 e1 e=>if_i e fun hl e=>
    List_ (sp_args h hs w g₀ g ι δ H m ρ env L cl A E s _ _ _ X R C e1 fun s1 ι1 δ1 vs' C1 p1 r1 q1=>p_newList C1 r1 hl ((K.eqs e).trans p1 q1))
theorem se_tup {cs:Scope} {n:Nat} {l:List EX} {es:List Expr} (k:Nat) (p:Pos) (h:SEs cs n l es) (hs:es.all noStar=true):SE cs n (eTup l) (.Tuple es k p):=
  fun w g₀ g ι δ H m ρ env L cl A E s Q v H' X R C e K=>oB_i e fun vs H1 e1 e=>if_i e fun hl e=>
    Tuple_ (sp_args h hs w g₀ g ι δ H m ρ env L cl A E s _ _ _ X R C e1 fun s1 ι1 δ1 vs' C1 p1 r1 q1=>p_newTuple C1 r1 hl ((K.eqs e).trans p1 q1))
theorem se_dict0 {cs:Scope} {n:Nat} (p:Pos):SE cs n eDict0 (.Dict [] [] p):=by
  intro w g₀ g ι δ H m ρ env L cl A E s Q v H' X R C e K
  exact wpAny_Dict_empty (K.eqs e _ _ _ _ (C.push rfl ⟨rfl,Heap.get?_push_size _ rfl⟩) (List.prefix_append _ _) (vr_new C.li) ⟨rfl,rfl⟩)
noncomputable def eIdx (c d:EX):EX:=fun ρ H=>oB (c ρ H) fun x H1=>oB (d ρ H1) fun y H2=>(idx x y H2).map fun v=>(v,H2)
theorem se_idx {cs:Scope} {n:Nat} {c d:EX} {l r:Expr} (p:Pos) (ns:notSlice r=true) (hc:SE cs n c l) (hd:SE cs n d r):SE cs n (eIdx c d) (.Subscript l r p):=
  fun w g₀ g ι δ H m ρ env L cl A E s Q v H' X R C e K=>oB_i e fun x H1 e1 e=>oB_i e fun y H2 e2 e=>map_i e fun b h1 h2=>
    Subscript_ (hc w g₀ g ι δ H m ρ env L cl A E s _ _ _ X R C e1 fun s1 ι1 δ1 v1 C1 p1 r1 q1=>
      hd w g₀ g ι1 δ1 H1 m ρ env L cl A E s1 _ _ _ (X.mono p1) R C1 e2 fun s2 ι2 δ2 v2 C2 p2 r2 q2=>
        p_idx C2 ns (r1.mono p2) r2 h1 (((K.eqp h2).trans p1 q1).trans p2 q2))
noncomputable def ePart:Option EX→EX
  | none=>fun _ H=>some (.none,H)
  | some c=>c
inductive SEo (cs:Scope) (n:Nat):Option EX→Option Expr→Prop
  | none:SEo cs n none none
  | some {c:EX} {e:Expr}:SE cs n c e→SEo cs n (some c) (some e)
theorem sp_part {cs:Scope} {n:Nat} {c:Option EX} {x:Option Expr} (h:SEo cs n c x) (w:World) (g₀ g:Heap) (ι:List Addr) (δ:List (Option Addr)) (H:Hp) (m:Str→Option Value) (ρ:Loc) (env:Env) (L:Addr) (cl:List (Str×Addr)) (A:Around) (E:Value→Shared→Prop) (s:Shared) (Q:Value→Shared→Prop) (v:AV) (H':Hp)
    (X:Cx w g₀ g ι env cs cl L m ρ) (R:Room A n) (C:Conc w.params g s.heap ι δ H) (e:ePart c ρ H=some (v,H')) (K:Ret w.params g s ι H' v Q):wpAny (model pg w) A (evalPart x env) Q E s:=by
  cases h with
  | none=>cases e; exact wpAny_pure (K.here' C .none)
  | some h=>exact h w g₀ g ι δ H m ρ env L cl A E s _ _ _ X R C e K
noncomputable def eSlice (c:EX) (lo hi:Option EX):EX:=fun ρ H=>oB (c ρ H) fun x H1=>oB (ePart lo ρ H1) fun l H2=>oB (ePart hi ρ H2) fun u H3=>slice x l u H3
theorem se_slice {cs:Scope} {n:Nat} {c:EX} {lo hi:Option EX} {l:Expr} {lo' hi':Option Expr} (p p':Pos) (hc:SE cs n c l) (hl:SEo cs n lo lo') (hh:SEo cs n hi hi'):SE cs n (eSlice c lo hi) (.Subscript l (.Slice lo' hi' none p') p):=
  fun w g₀ g ι δ H m ρ env L cl A E s Q v H' X R C e K=>oB_i e fun x H1 e1 e=>oB_i e fun y H2 e2 e=>oB_i e fun z H3 e3 e=>
    Subscript_ (hc w g₀ g ι δ H m ρ env L cl A E s _ _ _ X R C e1 fun s1 ι1 δ1 v1 C1 p1 r1 q1=>
      wpAny_Slice (sp_part hl w g₀ g ι1 δ1 H1 m ρ env L cl A E s1 _ _ _ (X.mono p1) R C1 e2 fun s2 ι2 δ2 v2 C2 p2 r2 q2=>
        sp_part hh w g₀ g ι2 δ2 H2 m ρ env L cl A E s2 _ _ _ (X.mono (p1.trans p2)) R C2 e3 fun s3 ι3 δ3 v3 C3 p3 r3 q3=>
          wpAny_pure (p_slice C3 (r1.mono (p2.trans p3)) (r2.mono p3) r3 e (((K.trans p1 q1).trans p2 q2).trans p3 q3))))
end Mine
end
section
open PySem PySem.W PyProof.Rows PySem.Calls
set_option Elab.async false
set_option linter.all false
set_option autoImplicit false
set_option maxRecDepth 10000
namespace Mine
noncomputable abbrev CallF:=Nat→List AV→Hp→Option (AV×Hp)
noncomputable def SC (n:Nat) (cf:CallF):Prop:=
  ∀ (w:World) (g₀ g:Heap) (ι:List Addr) (δ:List (Option Addr)) (H:Hp) (A:Around) (E:Value→Shared→Prop) (s:Shared) (Q:Value→Shared→Prop) (v:AV) (H':Hp) (f:Nat) (vs:List AV) (vs':List Value),
    Stat w g₀→(∀ (b:Addr) (o:Obj),g₀.get? b=some o→g.get? b=some o)→(∀ (a:Addr) (l:List Int),AV.ext a l∈vs→ExtAt g₀ a l)→g₀.objs.size≤s.heap.objs.size→Room A n→Conc w.params g s.heap ι δ H→cf f vs H=some (v,H')→VRs ι vs' vs→Ret w.params g s ι H' v Q→
    codeAny (model pg w) A (.call (.ref f) ⟨vs',[]⟩) (fun r s'=>match r with | .ok (.ret v)=>Q v s' | .ok _=>False | .error e=>E e s') s
theorem Room.mono {A:Around} {n k:Nat} (R:Room A n) (h:k≤n):Room A k:=
  ⟨R.h,Nat.lt_of_le_of_lt (Nat.add_le_add_right (Nat.add_le_add_left (Nat.mul_le_mul_left 3 h) _) _) R.d,Nat.lt_of_le_of_lt (Nat.add_le_add_right (Nat.add_le_add_left (Nat.mul_le_mul_left 12 h) _) _) R.u⟩
theorem room_d {a n:Nat} (h:a+3 * (n+1)+10<1000):a+1+3 * n+10<1000:=by lia
theorem room_u {a n:Nat} (h:a+12 * (n+1)+200<9900):a+3+12 * n+200<9900:=by lia
theorem Room.tc {A:Around} {n:Nat} {c:Addr} {rest:List Value} (R:Room A (n+1)):Room (A.under (.builtin "type.__call__" ⟨.ref c::rest,[]⟩)) n:=by
  have w1:(Code.builtin "type.__call__" ⟨.ref c::rest,[]⟩).weight=1:=by unfold Code.weight; rfl
  refine ⟨R.h,?_,?_⟩
  · show A.depth+_+3 * n+10<1000
    rw [w1]; exact room_d R.d
  · exact Nat.lt_of_le_of_lt (Nat.add_le_add_right (Nat.add_le_add_right (Nat.add_le_add_left (by decide:1≤3) _) _) _) (room_u R.u)
section
variable {w:World} {A:Around} {E:Value→Shared→Prop} {g₀ g:Heap} {s:Shared} {ι:List Addr} {δ:List (Option Addr)} {H H':Hp} {v:AV} {Q:Value→Shared→Prop} {L:Addr} {m:Str→Option Value} {env:Env} {cs:Scope} {cl:List (Str×Addr)} {ρ:Loc}
theorem Cx.Fh {ι':List Addr} (X:Cx w g₀ g ι' env cs cl L m ρ) (C:Conc w.params g s.heap ι δ H):Fr g₀ L s.heap m:=X.F.keeps C.keep
theorem Cx.Kh {ι':List Addr} (X:Cx w g₀ g ι' env cs cl L m ρ) (C:Conc w.params g s.heap ι δ H):(KK w.params).In s.heap:=X.S.K.keeps (X.Fh C).keep
theorem Fr.size_le {h₀ h:Heap} {L:Addr} {m:Str→Option Value} (F:Fr h₀ L h m):h₀.objs.size≤h.objs.size:=by
  obtain ⟨oL,_,_,hL,_⟩:=F.ns
  exact Nat.le_trans F.above (Nat.le_of_lt (Heap.lt_size hL))
theorem noStar_plain {pos:Pos} {env:Env}:∀ {es:List Expr},es.all noStar=true→(backTo pos (starEach es env)).any (·.1)=false
  | [],_=>rfl
  | e::es,h=>by
    rw [List.all_cons,Bool.and_eq_true] at h
    rw [starEach_cons h.1]
    exact noStar_plain h.2
theorem cw_K {n:Nat} {pos:Pos} {l:List EX} {es:List Expr} (h:SEs cs n l es) (hs:es.all noStar=true) {f:Value} {first:List Value} (hk:keepIn (KK w.params) f=true)
    {vs:List AV} (X:Cx w g₀ g ι env cs cl L m ρ) (R:Room A n) (C:Conc w.params g s.heap ι δ H) (e:eArgs l ρ H=some (vs,H'))
    (K:∀ (s':Shared) (ι':List Addr) (δ':List (Option Addr)) (vs':List Value),Conc w.params g s'.heap ι' δ' H'→ι<+:ι'→VRs ι' vs' vs→Rest s s'→wpAny (model pg w) A (call f (first++vs')) Q E s') :
    wpAny (model pg w) A (callWith pos f first (backTo pos (starEach es env)) []) Q E s:=by
  cases h with
  | nil=>
    cases e
    exact callWith_K0 (X.Kh C) hk (K _ _ _ _ C (List.prefix_refl _) .nil (Rest.refl _))
  | @cons c x l es h1 h2 h3=>
    have hs':=hs
    rw [List.all_cons,Bool.and_eq_true] at hs'
    exact callWith_K X.S.K hk (sp_args (.cons h1 h2 h3) hs w g₀ g ι δ H m ρ env L cl A E s _ _ _ X R C e fun s' ι' δ' vs' C' p r q=>⟨X.Kh C',K _ _ _ _ C' p r q⟩) (starEach_cons hs'.1) (noStar_plain hs'.2)
theorem cw_B {n:Nat} {pos:Pos} {l:List EX} {es:List Expr} (h:SEs cs n l es) (hs:es.all noStar=true) (hne:es≠[]) {id:String} {first:List Value}
    {vs:List AV} (X:Cx w g₀ g ι env cs cl L m ρ) (R:Room A n) (C:Conc w.params g s.heap ι δ H) (e:eArgs l ρ H=some (vs,H'))
    (K:∀ (s':Shared) (ι':List Addr) (δ':List (Option Addr)) (vs':List Value),Conc w.params g s'.heap ι' δ' H'→ι<+:ι'→VRs ι' vs' vs→Rest s s'→wpAny (model pg w) A (call (.builtin id) (first++vs')) Q E s') :
    wpAny (model pg w) A (callWith pos (.builtin id) first (backTo pos (starEach es env)) []) Q E s:=by
  cases h with
  | nil=>exact absurd rfl hne
  | @cons c x l es h1 h2 h3=>
    have hs':=hs
    rw [List.all_cons,Bool.and_eq_true] at hs'
    have sp:=sp_args (pos:=pos) (.cons h1 h2 h3) hs w g₀ g ι δ H m ρ env L cl A E s _ _ _ X R C e K
    have pl:=noStar_plain (pos:=pos) (env:=env) hs
    rw [starEach_cons hs'.1] at sp pl ⊢
    exact callWith_builtin pl (evalArgs_plain sp)
theorem cw_T {n:Nat} {pos:Pos} {l:List EX} {es:List Expr} (h:SEs cs n l es) (hs:es.all noStar=true) (hne:es≠[]) {T:String} {first:List Value}
    {vs:List AV} (X:Cx w g₀ g ι env cs cl L m ρ) (R:Room A n) (C:Conc w.params g s.heap ι δ H) (e:eArgs l ρ H=some (vs,H'))
    (K:∀ (s':Shared) (ι':List Addr) (δ':List (Option Addr)) (vs':List Value),Conc w.params g s'.heap ι' δ' H'→ι<+:ι'→VRs ι' vs' vs→Rest s s'→wpAny (model pg w) A (call (.type T) (first++vs')) Q E s') :
    wpAny (model pg w) A (callWith pos (.type T) first (backTo pos (starEach es env)) []) Q E s:=by
  cases h with
  | nil=>exact absurd rfl hne
  | @cons c x l es h1 h2 h3=>
    have hs':=hs
    rw [List.all_cons,Bool.and_eq_true] at hs'
    have sp:=sp_args (pos:=pos) (.cons h1 h2 h3) hs w g₀ g ι δ H m ρ env L cl A E s _ _ _ X R C e K
    have pl:=noStar_plain (pos:=pos) (env:=env) hs
    rw [starEach_cons hs'.1] at sp pl ⊢
    exact PySem.callWith_type pl (evalArgs_plain sp)
end
noncomputable def isGlob (cs:Scope) (x:Str):Bool:=cs.names.lookup x == some .globalImplicit && !(x == ("__debug__" : Str))
theorem noExt {g₀:Heap} {vs:List AV} (h:¬ vs.any isExt=true):∀ (a:Addr) (l:List Int),AV.ext a l∈vs→ExtAt g₀ a l:=fun a l hm=>absurd (List.any_eq_true.mpr ⟨_,hm,rfl⟩) h
theorem noExt' {g₀:Heap} {vs:List AV} {k:Nat} (h:¬ vs.any isExt=true):∀ (a:Addr) (l:List Int),AV.ext a l∈(AV.ref k::vs)→ExtAt g₀ a l:=fun a l hm=>by
  rcases List.mem_cons.mp hm with hm | hm
  · cases hm
  · exact noExt h a l hm
noncomputable def eFun (cf:CallF) (f:Nat) (l:List EX):EX:=fun ρ H=>oB (eArgs l ρ H) fun vs H1=>if vs.any isExt then none else cf f vs H1
theorem glob_kind {cs:Scope} {x:Str} (h:isGlob cs x=true):cs.names.lookup x=some .globalImplicit∧(x == ("__debug__" : Str))=false:=by
  unfold isGlob at h
  rw [Bool.and_eq_true,Bool.not_eq_true'] at h
  exact ⟨eq_of_beq h.1,h.2⟩
theorem fn_glob {Pm:Params} {x:Str} {f:Nat} (h:ftab.lookup x=some f):nsIn (KK Pm) mainGlobals x=some (some (.ref f))∧keepIn (KK Pm) (.ref f)=true:=by
  have:=List.all_eq_true.mp (ftab_ok Pm) _ (lookup_mem h)
  unfold fnB at this
  simpa using this
theorem se_fun {cs:Scope} {n:Nat} {cf:CallF} (hcf:SC n cf) {x:Str} {f:Nat} {l:List EX} {es:List Expr} (px p:Pos) (hg:isGlob cs x=true) (hf:ftab.lookup x=some f) (h:SEs cs (n+1) l es) (hs:es.all noStar=true) :
    SE cs (n+1) (eFun cf f l) (.Call (.Name x px) es [] p):=
  fun w g₀ g ι δ H m ρ env L cl A E s Q v H' X R C e K=>oB_i e fun vs H1 e1 e=>ifn_i e fun hx e=>by
    obtain ⟨k1,k2⟩:=glob_kind hg
    obtain ⟨f1,f2⟩:=fn_glob (Pm:=w.params) hf
    obtain ⟨mg,mb,T⟩:=X.S.top
    exact Call_Name rfl (name_K X.ev X.fn (X.Fh C) X.S.K T f1 (cw_K h hs f2 X R C e1 fun s1 ι1 δ1 vs' C1 p1 r1 q1=>
      wpAny_call (hcf w g₀ g ι1 δ1 H1 A E s1 Q v H' f vs vs' X.S X.F.keep (noExt hx) (Fr.size_le (X.Fh C1)) (R.mono (Nat.le_succ n)) C1 e r1 (K.trans p1 q1))) k1 k2)
noncomputable def eNew (cf:CallF) (c f:Nat) (l:List EX):EX:=fun ρ H=>oB (eArgs l ρ H) fun vs H1=>if vs.any isExt then none else oNone (cf f (.ref H1.length::vs) (H1++[.inst c []])) fun H2=>some (.ref H1.length,H2)
noncomputable abbrev hpI (h:Heap) (c:Nat):Heap:=(h.push emptyDict).push (instObj c h.objs.size)
theorem hpI_keep {h:Heap} {c:Nat}:∀ (b:Addr) (o:Obj),h.get? b=some o→(hpI h c).get? b=some o:=fun b o e=>Heap.get?_push_of_some _ (Heap.get?_push_of_some _ e)
theorem hpI_size {h:Heap} {c:Nat}:(hpI h c).objs.size=h.objs.size+1+1:=by rw [Heap.size_push,Heap.size_push]
theorem Conc.pushI {Pm:Params} {g:Heap} {s:Shared} {ι:List Addr} {δ:List (Option Addr)} {H:Hp} (C:Conc Pm g s.heap ι δ H) (c:Nat):Conc Pm g (hpI s.heap c) (ι++[s.heap.objs.size+1]) (δ++[some s.heap.objs.size]) (H++[.inst c []]):=by
  refine C.allocI ?_ (fresh_size _) (Nat.succ_ne_self _) hpI_keep (fun j b q=>⟨Nat.ne_of_lt (Nat.lt_succ_of_lt (C.alive q)),Nat.ne_of_lt (C.alive q)⟩) (fun j b q=>⟨Nat.ne_of_lt (Nat.lt_succ_of_lt (C.aliveD q)),Nat.ne_of_lt (C.aliveD q)⟩) ?_ (Heap.get?_push_of_some _ (Heap.get?_push_size _ rfl))
  · cases q:s.heap.get? (s.heap.objs.size+1) with
    | none=>rfl
    | some o=>exact absurd (Heap.lt_size q) (Nat.not_lt.mpr (Nat.le_succ _))
  · have:=Heap.get?_push_size (s.heap.push emptyDict) (o:=instObj c s.heap.objs.size) rfl
    rwa [Heap.size_push] at this
theorem cls_glob {Pm:Params} {x:Str} {c f:Nat} (h:ctab.lookup x=some (c,f)):nsIn (KK Pm) mainGlobals x=some (some (.ref c))∧makesIn (KK Pm) c=true∧findIn (KK Pm) (.ref c) "__init__" = some (some (.ref f))∧typeIn (KK Pm) (.ref f)=some (.type "function")∧keepIn (KK Pm) (.ref c)=true:=by
  have:=List.all_eq_true.mp (ctab_ok Pm) _ (lookup_mem h)
  unfold clsB at this
  simp only [Bool.and_eq_true,beq_iff_eq] at this
  obtain ⟨⟨⟨⟨a,b⟩,c⟩,d⟩,e⟩:=this
  exact ⟨a,b,c,d,e⟩
theorem se_new {cs:Scope} {n:Nat} {cf:CallF} (hcf:SC n cf) {x:Str} {c f:Nat} {l:List EX} {es:List Expr} (px p:Pos) (hg:isGlob cs x=true) (hf:ctab.lookup x=some (c,f)) (h:SEs cs (n+1) l es) (hs:es.all noStar=true) :
    SE cs (n+1) (eNew cf c f l) (.Call (.Name x px) es [] p):=
  fun w g₀ g ι δ H m ρ env L cl A E s Q v H' X R C e K=>oB_i e fun vs H1 e1 e=>ifn_i e fun hx e=>oNone_i e fun H2 e2 e=>by
    obtain ⟨k1,k2⟩:=glob_kind hg
    obtain ⟨f1,f2,f3,f4,f5⟩:=cls_glob (Pm:=w.params) hf
    obtain ⟨mg,mb,T⟩:=X.S.top
    refine Call_Name rfl (name_K X.ev X.fn (X.Fh C) X.S.K T f1 (cw_K h hs f5 X R C e1 fun s1 ι1 δ1 vs' C1 p1 r1 q1=>?_) k1 k2)
    have Kh:=X.Kh C1
    have vi:VR (ι1++[s1.heap.objs.size+1]) (.ref (s1.heap.objs.size+1)) (.ref H1.length):=.ref (snoc_new C1.li)
    have hr:=hcf w g₀ g _ _ _ (A.under (.builtin "type.__call__" ⟨.ref c::vs',[]⟩)) E ⟨hpI s1.heap c,s1.gens,s1.drawn,s1.toks,s1.os⟩
      (fun v' s'=>v'=.none∧Q (.ref (s1.heap.objs.size+1)) s') .none _ f (.ref H1.length::vs) (.ref (s1.heap.objs.size+1)::vs') X.S X.F.keep (noExt' hx) (by show g₀.objs.size≤(hpI s1.heap c).objs.size; rw [hpI_size]; exact Nat.le_succ_of_le (Nat.le_succ_of_le (Fr.size_le (X.Fh C1)))) R.tc (C1.pushI c) e2
      (.cons vi (r1.mono (List.prefix_append _ _)))
      (fun s' ι' δ' v' C' p' rv rr=>vN rv ⟨rfl,K.eqs e s' ι' δ' _ C' (p1.trans ((List.prefix_append _ _).trans p')) (vi.mono p') (q1.trans ⟨rr.1,rr.2⟩)⟩)
    refine wpAny_call (make_core (makes_of Kh f2) (looks_findIn Kh f3) (fun self=>bind_fn Kh self f4) (.inl rfl) (codeAny_mono hr fun r s' z=>?_))
    rcases r with e | (v | _ | _ | _)
    · exact z
    all_goals first | exact z | exact z.elim
end Mine
end
section
open PySem PySem.W PyProof.Rows PySem.Calls
set_option Elab.async false
set_option linter.all false
set_option autoImplicit false
set_option maxRecDepth 10000
namespace Mine
noncomputable def blt (x:Str) (vs:List AV) (H:Hp):Option (AV×Hp):=
  if x == ("len" : Str) then one vs fun v=>asRef v fun k=>atList H[k]? fun xs=>if xs.length≤1000000 then some (.int xs.length,H) else none
  else if x == ("min" : Str) then two vs fun v u=>asInt v fun a=>asInt u fun b=>some (.int (min a b),H)
  else if x == ("max" : Str) then two vs fun v u=>asInt v fun a=>asInt u fun b=>some (.int (max a b),H)
  else if x == ("abs" : Str) then one vs fun v=>asInt v fun a=>some (.int a.natAbs,H)
  else if x == ("sorted" : Str) then one vs fun v=>asRef v fun k=>atDict H[k]? (some (.ref H.length,H++[.list []]))
  else if x == ("list" : Str) then one vs fun v=>asRef v fun k=>atList H[k]? fun xs=>if xs.length≤1000000 then some (.ref H.length,H++[.list xs]) else none
  else none
theorem bt {x y:Str} {f f':Value} (q:(x == y)=true) (hb:btab.lookup x=some f) (h:btab.lookup y=some f'):f'=f:=by rw [eq_of_beq q,h] at hb; exact Option.some.inj hb
section
variable {w:World} {A:Around} {E:Value→Shared→Prop} {g₀ g:Heap} {s:Shared} {ι:List Addr} {δ:List (Option Addr)} {H H':Hp} {v:AV} {Q:Value→Shared→Prop}
theorem p_blt (S:Stat w g₀) (kp:∀ (b:Addr) (o:Obj),g₀.get? b=some o→g.get? b=some o) (hh:A.handled=none) (C:Conc w.params g s.heap ι δ H) {x:Str} {f:Value} (hb:btab.lookup x=some f) {vs:List AV} {vs':List Value} (r:VRs ι vs' vs) (e:blt x vs H=some (v,H'))
    (K:Ret w.params g s ι H' v Q):wpAny (model pg w) A (call f vs') Q E s:=by
  refine ite_i e (fun q e=>?_) fun _ e=>ite_i e (fun q e=>?_) fun _ e=>ite_i e (fun q e=>?_) fun _ e=>ite_i e (fun q e=>?_) fun _ e=>ite_i e (fun q e=>?_) fun _ e=>if_i e fun q e=>?_
  · obtain rfl:=bt q hb (f':=.builtin "len") rfl
    exact oneV r e fun v a r e=>vRE r e fun k ad ha e=>atList_i e fun xs ho e=>if_i e fun hl e=>p_len C ha ho hl (K.eqs e)
  · obtain rfl:=bt q hb (f':=.builtin "min") rfl
    exact twoV r e fun v u a b r1 r2 e=>vIE r1 e fun i t e=>vIE r2 e fun j t' e=>p_min hh C (K.eqs e)
  · obtain rfl:=bt q hb (f':=.builtin "max") rfl
    exact twoV r e fun v u a b r1 r2 e=>vIE r1 e fun i t e=>vIE r2 e fun j t' e=>p_max hh C (K.eqs e)
  · obtain rfl:=bt q hb (f':=.builtin "abs") rfl
    exact oneV r e fun v a r e=>vIE r e fun i t e=>p_abs C (K.eqs e)
  · obtain rfl:=bt q hb (f':=.builtin "sorted") rfl
    refine oneV r e fun v a r e=>vRE r e fun k ad ha e=>atDict_i e fun ho e=>p_sorted0 hh C ?_ ha ho (K.eqs e)
    rintro rfl
    obtain ⟨o,ho⟩:=Option.isSome_iff_exists.mp (show ((KK w.params).lookup sysModules).isSome=true by kernel_rfl)
    exact absurd (mem_owned.mpr (.inl ⟨k,ha⟩)) (C.notOwned (kp _ _ (S.K _ _ ho)))
  · obtain rfl:=bt q hb (f':=.type "list") rfl
    exact oneV r e fun v a r e=>vRE r e fun k ad ha e=>atList_i e fun xs ho e=>if_i e fun hl e=>p_list C ha ho hl (K.eqs e)
end
noncomputable def eBlt (x:Str) (l:List EX):EX:=fun ρ H=>oB (eArgs l ρ H) fun vs H1=>blt x vs H1
theorem blt_glob {Pm:Params} {x:Str} {f:Value} (h:btab.lookup x=some f):nsIn (KK Pm) mainGlobals x=some none∧bootBuiltins x=some f∧x≠("__name__" : Str):=by
  have:=List.all_eq_true.mp (btab_ok Pm) _ (lookup_mem h)
  unfold bltB at this
  simp only [Bool.and_eq_true,beq_iff_eq,bne_iff_ne] at this
  exact ⟨this.1.1,this.1.2,this.2⟩
theorem btab_is {x:Str} {f:Value} (h:btab.lookup x=some f):(∃ id,f=.builtin id)∨(∃ T,f=.type T):=by
  have:=List.all_eq_true.mp (show btab.all (fun p=>match p.2 with | .builtin _=>true | .type _=>true | _=>false)=true by rfl) _ (lookup_mem h)
  cases f with
  | builtin id=>exact .inl ⟨id,rfl⟩
  | type T=>exact .inr ⟨T,rfl⟩
  | _=>exact (Bool.false_ne_true this).elim
theorem se_blt {cs:Scope} {n:Nat} {x:Str} {f:Value} {l:List EX} {es:List Expr} (px p:Pos) (hg:isGlob cs x=true) (hf:btab.lookup x=some f) (h:SEs cs n l es) (hs:es.all noStar=true) (hne:es≠[]) :
    SE cs n (eBlt x l) (.Call (.Name x px) es [] p):=
  fun w g₀ g ι δ H m ρ env L cl A E s Q v H' X R C e K=>oB_i e fun vs H1 e1 e=>by
    obtain ⟨k1,k2⟩:=glob_kind hg
    obtain ⟨f1,f2,f3⟩:=blt_glob (Pm:=w.params) hf
    obtain ⟨mg,mb,T⟩:=X.S.top
    refine Call_Name rfl (name_B X.ev X.fn (X.Fh C) X.S.K T f1 f2 f3 ?_ k1 k2)
    rcases btab_is hf with ⟨id,rfl⟩ | ⟨T,rfl⟩
    · exact cw_B h hs hne (first:=[]) X R C e1 fun s1 ι1 δ1 vs' C1 p1 r1 q1=>p_blt X.S X.F.keep R.h C1 hf r1 e (K.trans p1 q1)
    · exact cw_T h hs hne (first:=[]) X R C e1 fun s1 ι1 δ1 vs' C1 p1 r1 q1=>p_blt X.S X.F.keep R.h C1 hf r1 e (K.trans p1 q1)
noncomputable def lPop (k:Nat) (v:AV) (xs:List AV) (H:Hp):Option (AV×Hp):=asInt v fun i=>match xs with
  | []=>none
  | x::r=>if i=0 then some (x,H.set k (.list r)) else none
noncomputable def listM (name:Str) (k:Nat) (v:AV) (H:Hp):Option (AV×Hp):=atList H[k]? fun xs=>if xs.length≤999999 then
      (if name == ("append" : Str) then some (.none,H.set k (.list (xs++[v])))
      else if name == ("pop" : Str) then lPop k v xs H
      else if name == ("count" : Str) then asInt v fun c=>(intsOf xs).map fun l=>(.int (l.count c),H)
      else none) else none
noncomputable def eMeth (cf:CallF) (c:EX) (name:Str) (l:List EX):EX:=fun ρ H=>oRef (c ρ H) fun k H1=>atIL H1[k]?
    (fun cls fs=>if fget name fs=none then (mtab.find? fun q=>q.1 == cls && q.2.1 == name).bind fun q=>oB (eArgs l ρ H1) fun vs H2=>if vs.any isExt then none else cf q.2.2 (.ref k::vs) H2 else none)
    (fun _=>if name == ("append" : Str) || name == ("pop" : Str) || name == ("count" : Str) then oB (eArgs l ρ H1) fun vs H2=>one vs fun v=>listM name k v H2 else none)
theorem meth_tab {Pm:Params} {cls:Nat} {name:Str} {q:Nat×Str×Nat} (h:mtab.find? (fun q=>q.1 == cls && q.2.1 == name)=some q) :
    plainGet (KK Pm) cls name=true∧findIn (KK Pm) (.ref cls) name=some (some (.ref q.2.2))∧isFn (KK Pm) (.ref q.2.2)=true∧keepIn (KK Pm) (.ref q.2.2)=true:=by
  have hm:=List.mem_of_find?_eq_some h
  have hp:=List.find?_some h
  simp only [Bool.and_eq_true,beq_iff_eq] at hp
  have:=List.all_eq_true.mp (mtab_ok Pm) _ hm
  unfold methB at this
  simp only [Bool.and_eq_true,beq_iff_eq] at this
  rw [hp.1,hp.2] at this
  exact ⟨this.1.1.1,this.1.1.2,this.1.2,this.2⟩
theorem kw_nil {pos:Pos} {env:Env}:backToKw pos (keywordEach [] env)=[]:=rfl
theorem form_true {pos:Pos} {env:Env} {es:List Expr} (hs:es.all noStar=true) (hl:es.length<30):methodCallForm (es.length+([]:List Keyword).length) (backTo pos (starEach es env)) (backToKw pos (keywordEach [] env))=true:=by
  have:(backTo pos (starEach es env)).all (!·.1)=true:=by
    rw [List.all_eq_not_any_not]
    simpa using noStar_plain (pos:=pos) (env:=env) hs
  unfold methodCallForm
  rw [this,kw_nil]
  simp
  omega
theorem abase {o:Expr} {name:Str} {env:Env} {m:Sem Value} (hb:baseOk o=true):attributeBase o name env m=m:=by
  cases o <;> first | rfl | exact (Bool.false_ne_true hb).elim
theorem meth_eq {o:Expr} {name:Str} {apos pos:Pos} {es:List Expr} {env:Env} (hb:baseOk o=true) (hs:es.all noStar=true) (hl:es.length<30) (hp:apos.endLine=pos.line) :
    eval (.Call (.Attribute o name apos) es [] pos) env=(do
      let ov ← eval o env
      standAt apos.atName
      let (f,first) ← holding [ov] (getMethod ov name (do return (← importBound o env).getD true))
      callWith pos f first (backTo pos (starEach es env)) []):=by
  rw [PySem.arm_eval_Call]
  rw [abase hb]
  unfold methodCall calleeOf methodCallPos
  rw [form_true hs hl,kw_nil]
  simp [hp]
theorem p_listM {w:World} {A:Around} {E:Value→Shared→Prop} {g:Heap} {s:Shared} {ι:List Addr} {δ:List (Option Addr)} {H1 H2 H':Hp} {v x:AV} {Q:Value→Shared→Prop} {name:Str} {k:Nat} {ad:Addr} {xs:List AV} {pl:Sem Bool} {cont:Value×List Value→Shared→Prop}
    (C:Conc w.params g s.heap ι δ H1) (ha:ι[k]?=some ad) (ho:H1[k]?=some (.list xs)) (e:listM name k x H2=some (v,H'))
    (fin:name∈[("append" : Str), "pop", "count"]→∀ id:String,(∀ (s2:Shared) (ι2:List Addr) (δ2:List (Option Addr)) (x':Value),ι2[k]?=some ad→Conc w.params g s2.heap ι2 δ2 H2→VR ι2 x' x→Ret w.params g s2 ι2 H' v Q→wpAny (model pg w) A (call (.builtin id) [.ref ad,x']) Q E s2)→cont (.builtin id,[.ref ad]) s) :
    wpAny (model pg w) A (getMethod (.ref ad) name pl) cont E s:=
  atList_i e fun ys hy e=>if_i e fun hlen e=>ite_i e
    (fun q e=>by
      obtain rfl:=eq_of_beq q
      exact p_getM C ha ho PySem.F.slot_list_append PySem.F.type_list_append (fin (by decide) _ fun s2 ι2 δ2 x' h1 h2 h3 h4=>p_append h2 h1 h3 hy (Nat.le_succ_of_le hlen) (h4.eqs e)))
    fun _ e=>ite_i e (fun q e=>by
      obtain rfl:=eq_of_beq q
      exact p_getM C ha ho PySem.F.slot_list_pop PySem.F.type_list_pop (fin (by decide) _ fun s2 ι2 δ2 x' h1 h2 h3 h4=>vIE h3 e fun i u e=>by
        cases ys with
        | nil=>exact no_some e
        | cons y r=>exact if_i e fun hi e=>hi ▸ p_pop h2 h1 hy (Nat.le_succ_of_le hlen) (h4.eqs e)))
    fun _ e=>if_i e fun q e=>by
      obtain rfl:=eq_of_beq q
      exact p_getM C ha ho PySem.F.slot_list_count PySem.F.type_list_count (fin (by decide) _ fun s2 ι2 δ2 x' h1 h2 h3 h4=>vIE h3 e fun i u e=>map_i e fun l hi e=>p_count h2 h1 hy hi (h4.eqp e))
theorem se_meth {cs:Scope} {n:Nat} {cf:CallF} (hcf:SC n cf) {c:EX} {o:Expr} {name:Str} {l:List EX} {es:List Expr} (apos pos:Pos) (hb:baseOk o=true) (hp:apos.endLine=pos.line) (hl:es.length<30) (hne:name∈[("append" : Str), "pop", "count"]→es≠[])
    (hc:SE cs (n+1) c o) (h:SEs cs (n+1) l es) (hs:es.all noStar=true):SE cs (n+1) (eMeth cf c name l) (.Call (.Attribute o name apos) es [] pos):=
  fun w g₀ g ι δ H m ρ env L cl A E s Q v H' X R C e K=>oRef_i e fun k H1 e1 e=>
    MethodCall_ (hc w g₀ g ι δ H m ρ env L cl A E s _ _ _ X R C e1 fun s1 ι1 δ1 v1 C1 p1 r1 q1=>vR r1 fun ad ha=>atIL_i e
      (fun cls fs ho e=>if_i e fun e2 e=>bind_i e fun q e3 e=>oB_i e fun vs H2 e4 e=>ifn_i e fun hx e=>C1.inst ha ho fun dx es' n' _ _ _ fr I _=>by
        obtain ⟨m1,m2,m3,m4⟩:=meth_tab (Pm:=w.params) e3
        exact method_inst (X.Fh C1) X.S.K I m1 m2 m3 (fr.getN e2) (cw_K h hs m4 (X.mono p1) R C1 e4 fun s2 ι2 δ2 vs' C2 p2 r2 q2=>
          wpAny_call (hcf w g₀ g ι2 δ2 H2 A E s2 Q v H' _ _ _ X.S X.F.keep (noExt' hx) (Fr.size_le (X.Fh C2)) (R.mono (Nat.le_succ n)) C2 e (.cons (.ref (pre_get p2 ha)) r2) ((K.trans p1 q1).trans p2 q2))))
      (fun xs ho e=>if_i e fun hn e=>oB_i e fun vs H2 e4 e=>one_i e fun x hv e=>p_listM C1 ha ho e fun hn id hf=>by
        subst hv
        exact cw_B h hs (hne hn) (X.mono p1) R C1 e4 fun s2 ι2 δ2 vs' C2 p2 r2 q2=>by
          obtain ⟨x',rfl,r3⟩:=r2.one
          exact hf s2 ι2 δ2 x' (pre_get p2 ha) C2 r3 ((K.trans p1 q1).trans p2 q2))) (meth_eq hb hs hl hp)
end Mine
end
section
open PySem PySem.W PyProof.Rows PySem.Calls
set_option Elab.async false
set_option linter.all false
set_option autoImplicit false
set_option maxRecDepth 10000
namespace Mine
inductive Fl where
  | next | ret (v:AV)
noncomputable abbrev SX:=Loc→Hp→Option (Fl×Loc×Hp)
noncomputable abbrev TX:=AV→Loc→Hp→Option (Loc×Hp)
inductive FlR (ι:List Addr):Flow→Fl→Prop
  | next:FlR ι .next .next
  | ret {v':Value} {v:AV} (r:VR ι v' v):FlR ι (.ret v') (.ret v)
@[elab_as_elim] theorem flN {ι:List Addr} {f:Flow} {G:Flow→Prop} (r:FlR ι f .next) (K:G .next):G f:=by cases r; exact K
@[elab_as_elim] theorem flR {ι:List Addr} {f:Flow} {v:AV} {G:Flow→Prop} (r:FlR ι f (.ret v)) (K:∀ v',VR ι v' v→G (.ret v')):G f:=by cases r with | ret r=>exact K _ r
noncomputable def oF {γ:Type} (o:Option (Fl×Loc×Hp)) (f:Loc→Hp→Option γ) (g:AV→Loc→Hp→Option γ):Option γ:=match o with
  | none=>none
  | some (q,ρ,H)=>match q with
    | .next=>f ρ H
    | .ret v=>g v ρ H
theorem oF_n {γ:Type} {r:Option γ} {o:Option (Fl×Loc×Hp)} {f:Loc→Hp→Option γ} {g:AV→Loc→Hp→Option γ} {ρ:Loc} {H:Hp} (h:o=some (.next,ρ,H)) (e:f ρ H=r):oF o f g=r:=by rw [h]; exact e
theorem oF_r {γ:Type} {r:Option γ} {o:Option (Fl×Loc×Hp)} {f:Loc→Hp→Option γ} {g:AV→Loc→Hp→Option γ} {v:AV} {ρ:Loc} {H:Hp} (h:o=some (.ret v,ρ,H)) (e:g v ρ H=r):oF o f g=r:=by rw [h]; exact e
theorem oF_i {γ:Type} {r:γ} {G:Prop} {o:Option (Fl×Loc×Hp)} {f:Loc→Hp→Option γ} {g:AV→Loc→Hp→Option γ} (e:oF o f g=some r) (K:∀ ρ H,o=some (.next,ρ,H)→f ρ H=some r→G) (K':∀ v ρ H,o=some (.ret v,ρ,H)→g v ρ H=some r→G):G:=by
  cases o with
  | none=>exact no_some e
  | some q=>obtain ⟨q,ρ,H⟩:=q; cases q with
    | next=>exact K ρ H rfl e
    | ret v=>exact K' v ρ H rfl e
structure Sx (w:World) (g₀ g:Heap) (s:Shared) (ι:List Addr) (δ:List (Option Addr)) (env:Env) (cs:Scope) (cl:List (Str×Addr)) (L:Addr) (m:Str→Option Value) (ρ:Loc):Prop where
  ev:EnvOk env cs L cl
  S:Stat w g₀
  F:Fr g₀ L s.heap m
  fn:cs.kind=.function
  kp:∀ (b:Addr) (o:Obj),g₀.get? b=some o→g.get? b=some o
  gL:g.get? L=none
  nL:L ∉ owned ι δ
  ce:∀ (x:Str) (c:Addr),cl.lookup x=some c→∃ o,g.get? c=some o
  exx:∀ (x:Str) (a:Addr) (l:List Int),ρ x=some (.ext a l)→ExtAt g₀ a l
  lr:∀ (x:Str) (v:AV),ρ x=some v→∃ v',VR ι v' v∧
    ((cs.names.lookup x=some .local∧m x=some v')∨(∃ c o,(cs.names.lookup x=some .cell∨cs.names.lookup x=some .free)∧cl.lookup x=some c∧g.get? c=some o∧o.data=.cell (some v')))
section
variable {w:World} {A:Around} {E:Value→Shared→Prop} {g₀ g:Heap} {s:Shared} {ι:List Addr} {δ:List (Option Addr)} {H H':Hp} {v:AV} {L:Addr} {m:Str→Option Value} {env:Env} {cs:Scope} {cl:List (Str×Addr)} {ρ:Loc}
theorem Fr.onto {h₀ h h':Heap} (F:Fr h₀ L h m) (k:∀ (b:Addr) (o:Obj),h₀.get? b=some o→h'.get? b=some o) (kL:∀ (o:Obj),h.get? L=some o→h'.get? L=some o):Fr h₀ L h' m:=by
  obtain ⟨oL,a1,a2,hL,a3⟩:=F.ns
  exact ⟨⟨oL,a1,a2,kL _ hL,a3⟩,k,F.above⟩
theorem Sx.cx (X:Sx w g₀ g s ι δ env cs cl L m ρ) (C:Conc w.params g s.heap ι δ H):Cx w g₀ (frz s.heap ι δ) ι env cs cl L m ρ where
  ev:=X.ev
  S:=X.S
  F:=Fr.onto X.F (fun b o e=>C.frz_keep b o (X.kp b o e)) (fun o e=>frz_get e X.nL)
  fn:=X.fn
  ce:=fun x c e=>let ⟨o,h⟩:=X.ce x c e; ⟨o,C.frz_keep _ _ h⟩
  exx:=X.exx
  lr:=fun x v e=>by
    obtain ⟨v',r,h | ⟨c,o,h1,h2,h3,h4⟩⟩:=X.lr x v e
    · exact ⟨v',r,.inl h⟩
    · exact ⟨v',r,.inr ⟨c,o,h1,h2,C.frz_keep _ _ h3,h4⟩⟩
theorem Sx.back (X:Sx w g₀ g s ι δ env cs cl L m ρ) (C:Conc w.params g s.heap ι δ H) {s':Shared} {ι':List Addr} {δ':List (Option Addr)} (C':Conc w.params (frz s.heap ι δ) s'.heap ι' δ' H') (p:ι<+:ι') :
    Sx w g₀ g s' ι' δ' env cs cl L m ρ∧Conc w.params g s'.heap ι' δ' H':=by
  obtain ⟨oL,a1,a2,hL,a3⟩:=X.F.ns
  have hL':(frz s.heap ι δ).get? L=some oL:=frz_get hL X.nL
  refine ⟨{ ev:=X.ev,S:=X.S,F:=Fr.onto X.F (fun b o e=>C'.keep b o (C.frz_keep b o (X.kp b o e))) (fun o e=>C'.keep _ _ (frz_get e X.nL)),fn:=X.fn,kp:=X.kp,gL:=X.gL,nL:=C'.notOwned hL',ce:=X.ce,exx:=X.exx,lr:=fun x v e=>?_ },C'.weaken C.frz_keep⟩
  obtain ⟨v',r,h⟩:=X.lr x v e
  exact ⟨v',r.mono p,h⟩
theorem Sx.ex (X:Sx w g₀ g s ι δ env cs cl L m ρ) (C:Conc w.params g s.heap ι δ H) {n:Nat} {c:EX} {e:Expr} (h:SE cs n c e) (R:Room A n) {Q:Value→Shared→Prop} (e1:c ρ H=some (v,H'))
    (K:∀ (s':Shared) (ι':List Addr) (δ':List (Option Addr)) (v':Value),Sx w g₀ g s' ι' δ' env cs cl L m ρ→Conc w.params g s'.heap ι' δ' H'→ι<+:ι'→VR ι' v' v→Rest s s'→Q v' s') :
    wpAny (model pg w) A (eval e env) Q E s:=
  h w g₀ _ ι δ H m ρ env L cl A E s Q v H' (X.cx C) R C.frz e1 fun s' ι' δ' v' C' p r rr=>K s' ι' δ' v' (X.back C C' p).1 (X.back C C' p).2 p r rr
theorem Sx.tr (X:Sx w g₀ g s ι δ env cs cl L m ρ) (C:Conc w.params g s.heap ι δ H) {n:Nat} {c:EX} {e:Expr} (h:ST cs n c e) (R:Room A n) {Q:Bool→Shared→Prop} {b:Bool} (e1:c ρ H=some (.bool b,H'))
    (K:∀ (s':Shared) (ι':List Addr) (δ':List (Option Addr)),Sx w g₀ g s' ι' δ' env cs cl L m ρ→Conc w.params g s'.heap ι' δ' H'→ι<+:ι'→Rest s s'→Q b s') :
    wpAny (model pg w) A (isTrue e env (eval e env)) Q E s:=
  h w g₀ _ ι δ H m ρ env L cl A E s Q b H' (X.cx C) R C.frz e1 fun s' ι' δ' v' C' p r rr=>K s' ι' δ' (X.back C C' p).1 (X.back C C' p).2 p rr
end
noncomputable def RetA (w:World) (g₀ g:Heap) (s:Shared) (ι:List Addr) (env:Env) (cs:Scope) (cl:List (Str×Addr)) (L:Addr) (ρ':Loc) (H':Hp) (Q:Unit→Shared→Prop):Prop:=
  ∀ (s':Shared) (ι':List Addr) (δ':List (Option Addr)) (m':Str→Option Value),Sx w g₀ g s' ι' δ' env cs cl L m' ρ'→Conc w.params g s'.heap ι' δ' H'→ι<+:ι'→Rest s s'→Q () s'
noncomputable def RetS (w:World) (g₀ g:Heap) (s:Shared) (ι:List Addr) (env:Env) (cs:Scope) (cl:List (Str×Addr)) (L:Addr) (ρ':Loc) (H':Hp) (f:Fl) (Q:Flow→Shared→Prop):Prop:=
  ∀ (s':Shared) (ι':List Addr) (δ':List (Option Addr)) (m':Str→Option Value) (f':Flow),Sx w g₀ g s' ι' δ' env cs cl L m' ρ'→Conc w.params g s'.heap ι' δ' H'→ι<+:ι'→FlR ι' f' f→Rest s s'→Q f' s'
section
variable {w:World} {g₀ g:Heap} {s s1:Shared} {ι ι1:List Addr} {env:Env} {cs:Scope} {cl:List (Str×Addr)} {L:Addr} {ρ' ρ1:Loc} {H' H1:Hp} {f f1:Fl} {Q:Flow→Shared→Prop}
theorem RetA.trans {Q:Unit→Shared→Prop} (K:RetA w g₀ g s ι env cs cl L ρ' H' Q) (p:ι<+:ι1) (q:Rest s s1):RetA w g₀ g s1 ι1 env cs cl L ρ' H' Q:=fun _ _ _ _ X C p' q'=>K _ _ _ _ X C (p.trans p') (q.trans q')
theorem RetS.trans (K:RetS w g₀ g s ι env cs cl L ρ' H' f Q) (p:ι<+:ι1) (q:Rest s s1):RetS w g₀ g s1 ι1 env cs cl L ρ' H' f Q:=fun _ _ _ _ _ X C p' r q'=>K _ _ _ _ _ X C (p.trans p') r (q.trans q')
theorem RetS.eqs (K:RetS w g₀ g s ι env cs cl L ρ' H' f Q) (e:some (f1,ρ1,H1)=some (f,ρ',H')):RetS w g₀ g s ι env cs cl L ρ1 H1 f1 Q:=by cases e; exact K
theorem RetA.eqs {Q:Unit→Shared→Prop} (K:RetA w g₀ g s ι env cs cl L ρ' H' Q) (e:some (ρ1,H1)=some (ρ',H')):RetA w g₀ g s ι env cs cl L ρ1 H1 Q:=by cases e; exact K
theorem RetA.eqp {Q:Unit→Shared→Prop} (K:RetA w g₀ g s ι env cs cl L ρ' H' Q) (e:(ρ1,H1)=(ρ',H')):RetA w g₀ g s ι env cs cl L ρ1 H1 Q:=by cases e; exact K
theorem RetS.nextA (K:RetS w g₀ g s ι env cs cl L ρ' H' .next Q):RetA w g₀ g s ι env cs cl L ρ' H' (fun _ s'=>Q .next s'):=fun _ _ _ _ X C p q=>K _ _ _ _ _ X C p .next q
end
noncomputable def SA (cs:Scope) (n:Nat) (d:TX) (t:Expr):Prop:=
  ∀ (w:World) (g₀ g:Heap) (ι:List Addr) (δ:List (Option Addr)) (H:Hp) (m:Str→Option Value) (ρ ρ':Loc) (env:Env) (L:Addr) (cl:List (Str×Addr)) (A:Around) (E:Value→Shared→Prop) (s:Shared) (Q:Unit→Shared→Prop) (v:AV) (v':Value) (H':Hp),
    Sx w g₀ g s ι δ env cs cl L m ρ→Room A n→Conc w.params g s.heap ι δ H→VR ι v' v→d v ρ H=some (ρ',H')→RetA w g₀ g s ι env cs cl L ρ' H' Q→wpAny (model pg w) A (assign t env v') Q E s
noncomputable def SS (cs:Scope) (n:Nat) (c:SX) (st:Stmt):Prop:=
  ∀ (w:World) (g₀ g:Heap) (ι:List Addr) (δ:List (Option Addr)) (H:Hp) (m:Str→Option Value) (ρ ρ':Loc) (env:Env) (L:Addr) (cl:List (Str×Addr)) (A:Around) (E:Value→Shared→Prop) (s:Shared) (Q:Flow→Shared→Prop) (f:Fl) (H':Hp),
    Sx w g₀ g s ι δ env cs cl L m ρ→Room A n→Conc w.params g s.heap ι δ H→c ρ H=some (f,ρ',H')→RetS w g₀ g s ι env cs cl L ρ' H' f Q→wpAny (model pg w) A (exec st env) Q E s
noncomputable def SB (cs:Scope) (n:Nat) (c:SX) (sts:List Stmt):Prop:=
  ∀ (w:World) (g₀ g:Heap) (ι:List Addr) (δ:List (Option Addr)) (H:Hp) (m:Str→Option Value) (ρ ρ':Loc) (env:Env) (L:Addr) (cl:List (Str×Addr)) (A:Around) (E:Value→Shared→Prop) (s:Shared) (Q:Flow→Shared→Prop) (f:Fl) (H':Hp),
    Sx w g₀ g s ι δ env cs cl L m ρ→Room A n→Conc w.params g s.heap ι δ H→c ρ H=some (f,ρ',H')→RetS w g₀ g s ι env cs cl L ρ' H' f Q→wpAny (model pg w) A (execs sts env) Q E s
noncomputable def sNil:SX:=fun ρ H=>some (.next,ρ,H)
noncomputable def sSeq (c d:SX):SX:=fun ρ H=>oF (c ρ H) d fun v ρ1 H1=>some (.ret v,ρ1,H1)
theorem sb_nil {cs:Scope} {n:Nat}:SB cs n sNil []:=
  fun w g₀ g ι δ H m ρ ρ' env L cl A E s Q f H' X R C e K=>wpAny_execs_nil (K.eqs e _ _ _ _ _ X C (List.prefix_refl _) .next (Rest.refl _))
theorem sb_cons {cs:Scope} {n:Nat} {c d:SX} {st:Stmt} {sts:List Stmt} (h:SS cs n c st) (h':SB cs n d sts):SB cs n (sSeq c d) (st::sts):=
  fun w g₀ g ι δ H m ρ ρ' env L cl A E s Q f H' X R C e K=>oF_i e
    (fun ρ1 H1 e1 e=>wpAny_execs_cons (h w g₀ g ι δ H m ρ ρ1 env L cl A E s _ _ _ X R C e1 fun s1 ι1 δ1 m1 f1 X1 C1 p1 r1 q1=>flN r1 (h' w g₀ g ι1 δ1 H1 m1 ρ1 ρ' env L cl A E s1 _ _ _ X1 R C1 e (K.trans p1 q1))))
    (fun v ρ1 H1 e1 e=>wpAny_execs_cons (h w g₀ g ι δ H m ρ _ env L cl A E s _ _ _ X R C e1 fun s1 ι1 δ1 m1 f1 X1 C1 p1 r1 q1=>flR r1 fun v' r=>K.eqs e _ _ _ _ _ X1 C1 p1 (.ret r) q1))
noncomputable def sRet (c:EX):SX:=fun ρ H=>oB (c ρ H) fun v H1=>some (.ret v,ρ,H1)
noncomputable def sRet0:SX:=fun ρ H=>some (.ret .none,ρ,H)
noncomputable def sExpr (c:EX):SX:=fun ρ H=>oB (c ρ H) fun _ H1=>some (.next,ρ,H1)
noncomputable def sIf (t:EX) (c d:SX):SX:=fun ρ H=>oBool (t ρ H) fun b H1=>if b then c ρ H1 else d ρ H1
theorem ss_ret {cs:Scope} {n:Nat} {c:EX} {e:Expr} (p:Pos) (h:SE cs n c e):SS cs n (sRet c) (.Return (some e) p):=
  fun w g₀ g ι δ H m ρ ρ' env L cl A E s Q f H' X R C e K=>oB_i e fun v H1 e1 e=>wpAny_Return_some (X.ex C h R e1 fun s1 ι1 δ1 v1 X1 C1 p1 r1 q1=>K.eqs e _ _ _ _ _ X1 C1 p1 (.ret r1) q1)
theorem ss_ret0 {cs:Scope} {n:Nat} (p:Pos):SS cs n sRet0 (.Return none p):=
  fun w g₀ g ι δ H m ρ ρ' env L cl A E s Q f H' X R C e K=>wpAny_Return_none (K.eqs e _ _ _ _ _ X C (List.prefix_refl _) (.ret .none) (Rest.refl _))
noncomputable def noComp (e:Expr):Bool:=!(e.ctorIdx == 8 || e.ctorIdx == 9 || e.ctorIdx == 10)
theorem noComp_swaps {e:Expr} {t:Option Expr} {k:Nat} {env:Env} (h:noComp e=true):swapsWith e t k env=pure false:=by
  cases e <;> first | rfl | exact (Bool.false_ne_true h).elim
theorem ss_expr {cs:Scope} {n:Nat} {c:EX} {e:Expr} (p:Pos) (hn:noComp e=true) (hk:cs.kind=.function) (h:SE cs n c e):SS cs n (sExpr c) (.Expr e p):=
  fun w g₀ g ι δ H m ρ ρ' env L cl A E s Q f H' X R C e K=>oB_i e fun v H1 e1 e=>
    wpAny_Expr_any (X.ex C h R e1 fun s1 ι1 δ1 v1 X1 C1 p1 r1 q1=>K.eqs e _ _ _ _ _ X1 C1 p1 .next q1) (by delta interactive; rw [X.ev.sc,hk]; rfl) (noComp_swaps hn)
theorem ss_if {cs:Scope} {n:Nat} {t:EX} {c d:SX} {te:Expr} {b o:List Stmt} (p:Pos) (ht:ST cs n t te) (hc:SB cs n c b) (hd:SB cs n d o):SS cs n (sIf t c d) (.If te b o p):=
  fun w g₀ g ι δ H m ρ ρ' env L cl A E s Q f H' X R C e K=>oBool_i e fun bb H1 e1 e=>wpAny_If (X.tr C ht R e1 fun s1 ι1 δ1 X1 C1 p1 q1=>by
    cases bb
    · exact hd w g₀ g ι1 δ1 H1 m ρ ρ' env L cl A E s1 _ _ _ X1 R C1 e (K.trans p1 q1)
    · exact hc w g₀ g ι1 δ1 H1 m ρ ρ' env L cl A E s1 _ _ _ X1 R C1 e (K.trans p1 q1))
end Mine
end
section
open PySem PySem.W PyProof.Rows PySem.Calls
set_option Elab.async false
set_option linter.all false
set_option autoImplicit false
set_option maxRecDepth 10000
namespace Mine
section
variable {w:World} {A:Around} {E:Value→Shared→Prop} {g₀ g:Heap} {s:Shared} {ι:List Addr} {δ:List (Option Addr)} {H H':Hp} {v:AV} {L:Addr} {m:Str→Option Value} {env:Env} {cs:Scope} {cl:List (Str×Addr)} {ρ:Loc}
theorem Sx.grow (X:Sx w g₀ g s ι δ env cs cl L m ρ) {s':Shared} (k:∀ (b:Addr) (o:Obj),s.heap.get? b=some o→s'.heap.get? b=some o):Sx w g₀ g s' ι δ env cs cl L m ρ:=
  { X with F:=X.F.keeps k }
noncomputable def setSl (x l u v:AV) (H:Hp):Option Hp:=asRef x fun k=>(part l).bind fun lo=>(part u).bind fun hi=>asRef v fun j=>atList H[k]? fun xs=>atList H[j]? fun ys=>
  if k≠j∧xs.length+ys.length≤1000000 then some (H.set k (.list (splice xs lo hi ys))) else none
theorem splice_eq {vs ws:List Value} {a b:Nat}:(vs.toArray.extract 0 ((a:Nat):Int).toNat++ws.toArray++vs.toArray.extract (max ((a:Nat):Int) ((b:Nat):Int)).toNat)=(vs.take a++ws++vs.drop (max a b)).toArray:=by
  rw [show (max ((a:Nat):Int) ((b:Nat):Int)).toNat=max a b by
    rcases Nat.le_total a b with h | h
    · rw [Int.max_eq_right (Int.ofNat_le.mpr h),Nat.max_eq_right h]; rfl
    · rw [Int.max_eq_left (Int.ofNat_le.mpr h),Nat.max_eq_left h]; rfl]
  apply Array.toList_inj.mp
  simp
  exact List.take_of_length_le (by simp)
theorem p_setSl (C:Conc w.params g s.heap ι δ H) {x l u y:AV} {x' l' u' y':Value} {sl:Addr} (rx:VR ι x' x) (rl:VR ι l' l) (ru:VR ι u' u) (ry:VR ι y' y) (hs:s.heap.IsSliceOf sl l' u' .none) (e:setSl x l u y H=some H') {Q:Unit→Shared→Prop}
    (K:Ret w.params g s ι H' .none (fun _ s'=>Q () s')):wpAny (model pg w) A (setItem x' (.ref sl) y') Q E s:=
  vRE rx e fun k a ha e=>bind_i e fun lo e1 e=>bind_i e fun hi e2 e=>vRE ry e fun j b hb e=>atList_i e fun xs h1 e=>atList_i e fun ys h2 e=>if_i e fun hq e=>
    C.list ha h1 fun vs n ga r _=>C.list hb h2 fun ws n' gb r' _=>by
      refine setItem_slice ga gb (fun z=>hq.1 (C.ii _ _ _ ha (z ▸ hb))) hs (part_vr rl e1) (part_vr ru e2) (by rw [r.len,r'.len]; exact hq.2) (K.unit (Option.some.inj e) (C.setL ha h1 ga splice_eq ?_) (List.prefix_refl _) ⟨rfl,rfl⟩)
      unfold splice
      rw [r.len]
      exact ((r.take _).append r').append (r.drop _)
end
noncomputable def upL (ρ:Loc) (x:Str) (v:AV):Loc:=fun y=>if y=x then some v else ρ y
noncomputable def tName (cs:Scope) (x:Str):TX:=fun v ρ H=>if isExt v then none else if cs.names.lookup x == some .local then some (upL ρ x v,H) else none
noncomputable def tAttr (c:EX) (x:Str):TX:=fun v ρ H=>oB (c ρ H) fun o H1=>(setF o x v H1).map fun H2=>(ρ,H2)
noncomputable def tIdx (c d:EX):TX:=fun v ρ H=>oB (c ρ H) fun o H1=>oB (d ρ H1) fun i H2=>(setIx o i v H2).map fun H3=>(ρ,H3)
noncomputable def tSlice (c:EX) (lo hi:Option EX):TX:=fun v ρ H=>oB (c ρ H) fun o H1=>oB (ePart lo ρ H1) fun l H2=>oB (ePart hi ρ H2) fun u H3=>(setSl o l u v H3).map fun H4=>(ρ,H4)
theorem upL_i {ρ:Loc} {x y:Str} {v u:AV} {G:Prop} (h:upL ρ x v y=some u) (K:y=x→v=u→G) (K':y≠x→ρ y=some u→G):G:=by
  unfold upL at h
  by_cases q:y=x
  · rw [if_pos q] at h; exact K q (Option.some.inj h)
  · rw [if_neg q] at h; exact K' q h
theorem Conc.but {Pm:Params} {g h h':Heap} {ι:List Addr} {δ:List (Option Addr)} {H:Hp} {L:Addr} (C:Conc Pm g h ι δ H) (nL:L ∉ owned ι δ) (gL:g.get? L=none) (kp:∀ (b:Addr) (o:Obj),b≠L→h.get? b=some o→h'.get? b=some o):Conc Pm g h' ι δ H:=
  { C with
    keep:=fun b o e=>kp b o (fun z=>by rw [z,gL] at e; cases e) (C.keep b o e)
    ob:=fun j y e=>let ⟨b,d,e1,e2,q⟩:=C.ob j y e
      ⟨b,d,e1,e2,q.mono (List.prefix_refl _) (kp b · (fun z=>nL (z ▸ mem_owned.mpr (.inl ⟨_,e1⟩)))) (fun dx ed z=>kp dx z (fun z'=>nL (z' ▸ mem_owned.mpr (.inr ⟨_,ed ▸ e2⟩))))⟩ }
theorem st_name {cs:Scope} (x:Str):∀ (w:World) (g₀ g:Heap) (ι:List Addr) (δ:List (Option Addr)) (H:Hp) (m:Str→Option Value) (ρ ρ':Loc) (env:Env) (L:Addr) (cl:List (Str×Addr)) (A:Around) (E:Value→Shared→Prop) (s:Shared) (Q:Unit→Shared→Prop) (v:AV) (v':Value) (H':Hp),
    Sx w g₀ g s ι δ env cs cl L m ρ→Conc w.params g s.heap ι δ H→VR ι v' v→tName cs x v ρ H=some (ρ',H')→RetA w g₀ g s ι env cs cl L ρ' H' Q→
    wpAny (model pg w) A (storeName env x v') Q E s:=
  fun w g₀ g ι δ H m ρ ρ' env L cl A E s Q v v' H' X C r e K=>ifn_i e fun hext e=>if_i e fun hk e=>by
    have hk:=eq_of_beq hk
    refine wpAny_storeName_local (env:=env) (m:=m) (by unfold Env.kindOf; rw [X.ev.sc]; exact hk) (by rw [X.ev.lo]; exact X.F.ns) (fun h' hn hs=>?_) (by rw [X.ev.sc]; simp [X.fn])
    rw [X.ev.lo] at hn hs
    exact K.eqs e _ ι δ (fun y=>if y=x then some v' else m y) { X with
      F:=Fr.set X.F hn hs
      exx:=fun y a l hu=>upL_i hu (fun _ q=>absurd (q ▸ rfl) hext) fun _ h=>X.exx y a l h
      lr:=fun y u hu=>upL_i hu (fun hy q=>⟨v',q ▸ r,.inl ⟨hy ▸ hk,if_pos hy⟩⟩) fun hy h=>
        let ⟨u',r',h⟩:=X.lr y u h
        ⟨u',r',h.imp (fun q=>⟨q.1,(if_neg hy).trans q.2⟩) id⟩ } (C.but X.nL X.gL fun b o hb e=>(hs.2 b hb).trans e) (List.prefix_refl _) ⟨rfl,rfl⟩
theorem sa_name {cs:Scope} {n:Nat} (x:Str) (p:Pos):SA cs n (tName cs x) (.Name x p):=
  fun w g₀ g ι δ H m ρ ρ' env L cl A E s Q v v' H' X R C r e K=>wpAny_assign_Name (st_name x w g₀ g ι δ H m ρ ρ' env L cl A E s Q v v' H' X C r e K)
theorem sa_attr {cs:Scope} {n:Nat} {c:EX} {o:Expr} (x:Str) (p:Pos) (h:SE cs n c o):SA cs n (tAttr c x) (.Attribute o x p):=
  fun w g₀ g ι δ H m ρ ρ' env L cl A E s Q v v' H' X R C r e K=>oB_i e fun o1 H1 e1 e=>map_i e fun H2 h1 h2=>
    kas_attr (X.ex C h R e1 fun s1 ι1 δ1 v1 X1 C1 p1 r1 q1=>p_setF X1.S X1.F C1 X1.nL X1.gL X1.kp r1 (r.mono p1) h1 fun s2 F2 C2 q2=>K.eqp h2 s2 ι1 δ1 m { X1 with F:=F2 } C2 p1 (q1.trans q2))
theorem sa_idx {cs:Scope} {n:Nat} {c d:EX} {o i:Expr} (p:Pos) (h:SE cs n c o) (h':SE cs n d i):SA cs n (tIdx c d) (.Subscript o i p):=
  fun w g₀ g ι δ H m ρ ρ' env L cl A E s Q v v' H' X R C r e K=>oB_i e fun o1 H1 e1 e=>oB_i e fun i1 H2 e2 e=>map_i e fun H3 h1 h2=>
    kas_sub (X.ex C h R e1 fun s1 ι1 δ1 v1 X1 C1 p1 r1 q1=>X1.ex C1 h' R e2 fun s2 ι2 δ2 v2 X2 C2 p2 r2 q2=>
      p_setIx C2.frz (r1.mono p2) r2 (r.mono (p1.trans p2)) h1 fun s3 ι3 δ3 v3 C3 p3 r3 q3=>
        K.eqp h2 s3 ι3 δ3 m (X2.back C2 C3 p3).1 (X2.back C2 C3 p3).2 (p1.trans (p2.trans p3)) (q1.trans (q2.trans q3)))
theorem Sx.part {w:World} {A:Around} {E:Value→Shared→Prop} {g₀ g:Heap} {s:Shared} {ι:List Addr} {δ:List (Option Addr)} {H H':Hp} {v:AV} {L:Addr} {m:Str→Option Value} {env:Env} {cs:Scope} {cl:List (Str×Addr)} {ρ:Loc}
    (X:Sx w g₀ g s ι δ env cs cl L m ρ) (C:Conc w.params g s.heap ι δ H) {n:Nat} {c:Option EX} {e:Option Expr} (h:SEo cs n c e) (R:Room A n) {Q:Value→Shared→Prop} (e1:ePart c ρ H=some (v,H'))
    (K:∀ (s':Shared) (ι':List Addr) (δ':List (Option Addr)) (v':Value),Sx w g₀ g s' ι' δ' env cs cl L m ρ→Conc w.params g s'.heap ι' δ' H'→ι<+:ι'→VR ι' v' v→Rest s s'→Q v' s') :
    wpAny (model pg w) A (evalPart e env) Q E s:=
  sp_part h w g₀ _ ι δ H m ρ env L cl A E s Q v H' (X.cx C) R C.frz e1 fun s' ι' δ' v' C' p r rr=>K s' ι' δ' v' (X.back C C' p).1 (X.back C C' p).2 p r rr
theorem sa_slice {cs:Scope} {n:Nat} {c:EX} {lo hi:Option EX} {o:Expr} {lo' hi':Option Expr} (p p':Pos) (h:SE cs n c o) (hl:SEo cs n lo lo') (hh:SEo cs n hi hi'):SA cs n (tSlice c lo hi) (.Subscript o (.Slice lo' hi' none p') p):=
  fun w g₀ g ι δ H m ρ ρ' env L cl A E s Q v v' H' X R C r e K=>oB_i e fun o1 H1 e1 e=>oB_i e fun l1 H2 e2 e=>oB_i e fun u1 H3 e3 e=>map_i e fun H4 h1 h2=>
    kas_sub (X.ex C h R e1 fun s1 ι1 δ1 v1 X1 C1 p1 r1 q1=>wpAny_Slice (X1.part C1 hl R e2 fun s2 ι2 δ2 v2 X2 C2 p2 r2 q2=>X2.part C2 hh R e3 fun s3 ι3 δ3 v3 X3 C3 p3 r3 q3=>wpAny_pure
      (p_setSl (s:=slS s3 v2 v3) (C3.grow slS_keep).frz (r1.mono (p2.trans p3)) (r2.mono p3) r3 (r.mono (p1.trans (p2.trans p3))) ⟨_,Heap.get?_push_size _ rfl,rfl,rfl⟩ h1 fun s4 ι4 δ4 v4 C4 p4 r4 q4=>
        K.eqp h2 s4 ι4 δ4 m ((X3.grow slS_keep).back (C3.grow slS_keep) C4 p4).1 ((X3.grow slS_keep).back (C3.grow slS_keep) C4 p4).2 (p1.trans (p2.trans (p3.trans p4))) (q1.trans (q2.trans (q3.trans ⟨q4.1,q4.2⟩))))))
noncomputable def tSeq:List TX→List AV→Loc→Hp→Option (Loc×Hp)
  | [],vs,ρ,H=>if vs.isEmpty then some (ρ,H) else none
  | d::ds,vs,ρ,H=>match vs with
    | []=>none
    | v::vs=>oB (d v ρ H) fun ρ1 H1=>tSeq ds vs ρ1 H1
noncomputable def tTup (ds:List TX):TX:=fun v ρ H=>asRef v fun k=>atTup H[k]? fun xs=>tSeq ds xs ρ H
theorem tSeq_i {d:TX} {ds:List TX} {vs:List AV} {ρ:Loc} {H:Hp} {r:Loc×Hp} {G:Prop} (e:tSeq (d::ds) vs ρ H=some r) (K:∀ v ws ρ1 H1,vs=v::ws→d v ρ H=some (ρ1,H1)→tSeq ds ws ρ1 H1=some r→G):G:=by
  cases vs with
  | nil=>exact no_some e
  | cons v ws=>exact oB_i e fun ρ1 H1 h e=>K v ws ρ1 H1 rfl h e
theorem tSeq_0 {vs:List AV} {ρ:Loc} {H:Hp} {r:Loc×Hp} {G:Prop} (e:tSeq [] vs ρ H=some r) (K:vs=[]→some (ρ,H)=some r→G):G:=if_i e fun h e=>K (List.isEmpty_iff.mp h) e
theorem tSeq_len:∀ {ds:List TX} {vs:List AV} {ρ ρ':Loc} {H H':Hp},tSeq ds vs ρ H=some (ρ',H')→ds.length=vs.length:=by
  intro ds
  induction ds with
  | nil=>exact fun e=>tSeq_0 e fun h _=>h ▸ rfl
  | cons d ds ih=>exact fun e=>tSeq_i e fun v ws ρ1 H1 q _ e=>by rw [q,List.length_cons,ih e,List.length_cons]
theorem assignEach_cons {t:Expr} {ts:List Expr} {env:Env} (h:noStar t=true):assignEach (t::ts) env=(false,assign t env)::assignEach ts env:=by
  cases t <;> first | rfl | exact (Bool.false_ne_true h).elim
theorem assignEach_len {env:Env}:∀ {ts:List Expr},ts.all noStar=true→(assignEach ts env).length=ts.length
  | [],_=>rfl
  | t::ts,h=>by
    rw [List.all_cons,Bool.and_eq_true] at h
    rw [assignEach_cons h.1,List.length_cons,assignEach_len h.2,List.length_cons]
theorem assignEach_star {env:Env}:∀ {ts:List Expr},ts.all noStar=true→List.findIdx? (fun x=>x.1) (assignEach ts env)=none
  | [],_=>rfl
  | t::ts,h=>by
    rw [List.all_cons,Bool.and_eq_true] at h
    rw [assignEach_cons h.1,List.findIdx?_cons,assignEach_star h.2]
    rfl
inductive SAs (cs:Scope) (n:Nat):List TX→List Expr→Prop
  | nil:SAs cs n [] []
  | cons {d:TX} {t:Expr} {l:List TX} {ts:List Expr}:SA cs n d t→SAs cs n l ts→SAs cs n (d::l) (t::ts)
theorem sa_seq {cs:Scope} {n:Nat} {ds:List TX} {ts:List Expr} (h:SAs cs n ds ts) (hs:ts.all noStar=true) :
    ∀ (w:World) (g₀ g:Heap) (ι:List Addr) (δ:List (Option Addr)) (H:Hp) (m:Str→Option Value) (ρ ρ':Loc) (env:Env) (L:Addr) (cl:List (Str×Addr)) (A:Around) (E:Value→Shared→Prop) (s:Shared) (Q:Unit→Shared→Prop) (vs:List AV) (vs':List Value) (H':Hp),
    Sx w g₀ g s ι δ env cs cl L m ρ→Room A n→Conc w.params g s.heap ι δ H→VRs ι vs' vs→tSeq ds vs ρ H=some (ρ',H')→RetA w g₀ g s ι env cs cl L ρ' H' Q→
    wpAny (model pg w) A (assignInOrder ((assignEach ts env).map (·.2)) vs') Q E s:=by
  induction h with
  | nil=>
    exact fun w g₀ g ι δ H m ρ ρ' env L cl A E s Q vs vs' H' X R C r e K=>tSeq_0 e fun q e=>by
      subst q
      rw [r.of_nil]
      exact wpAny_pure (K.eqs e _ _ _ _ X C (List.prefix_refl _) (Rest.refl _))
  | @cons d t l ts h1 h2 ih=>
    rw [List.all_cons,Bool.and_eq_true] at hs
    exact fun w g₀ g ι δ H m ρ ρ' env L cl A E s Q vs vs' H' X R C r e K=>tSeq_i e fun v ws ρ1 H1 q e1 e'=>by
      subst q
      obtain ⟨v',ws',rfl,r1,r2⟩:=r.of_cons
      rw [assignEach_cons hs.1]
      exact wpAny_bind (wpAny_holding (h1 w g₀ g ι δ H m ρ ρ1 env L cl A E s _ v v' H1 X R C r1 e1 fun s1 ι1 δ1 m1 X1 C1 p1 q1=>
        ih hs.2 w g₀ g ι1 δ1 H1 m1 ρ1 ρ' env L cl A E s1 _ ws ws' H' X1 R C1 (r2.mono p1) e' (K.trans p1 q1)))
theorem SAs.len {cs:Scope} {n:Nat} {ds:List TX} {ts:List Expr} (h:SAs cs n ds ts):ds.length=ts.length:=by
  induction h with
  | nil=>rfl
  | cons _ _ ih=>exact congrArg Nat.succ ih
theorem extBut_keep {h h':Heap} (x:Heap.ExtBut h.objs.size h h'):∀ (b:Addr) (o:Obj),h.get? b=some o→h'.get? b=some o:=
  fun b o e=>x b o (Nat.ne_of_lt (Heap.lt_size e)) e
theorem sa_tup {cs:Scope} {n:Nat} {ds:List TX} {ts:List Expr} (k:Nat) (p:Pos) (h:SAs cs n ds ts) (hs:ts.all noStar=true):SA cs n (tTup ds) (.Tuple ts k p):=
  fun w g₀ g ι δ H m ρ ρ' env L cl A E s Q v v' H' X R C r e K=>vRE r e fun kk ad ha e=>atTup_i e fun xs ho e=>C.tup ha ho fun vs nn ga rs=>
    wpAny_assign_Tuple R.h ⟨_,ga,rfl,nn,rfl⟩ (by rw [assignEach_len hs,← h.len,tSeq_len e,List.size_toArray,rs.len]) (assignEach_star hs) fun h' hx=>
      sa_seq h hs w g₀ g ι δ H m ρ ρ' env L cl A E { s with heap:=h' } _ xs vs H' (X.grow (extBut_keep hx)) R (C.grow (extBut_keep hx)) rs e fun s2 ι2 δ2 m2 X2 C2 p2 q2=>K _ _ _ _ X2 C2 p2 ⟨q2.1,q2.2⟩
end Mine
end
section
open PySem PySem.W PyProof.Rows PySem.Calls
set_option Elab.async false
set_option linter.all false
set_option autoImplicit false
set_option maxRecDepth 10000
namespace Mine
inductive Itr where
  | list (k i:Nat) | range (x left:Int)
noncomputable def Itr.next (t:Itr) (H:Hp):Option (Option (AV×Itr)):=match t with
  | .list k i=>atList H[k]? fun xs=>some (xs[i]?.map fun v=>(v,.list k (i+1)))
  | .range x left=>some (if 0<left then some (.int x,.range (x+1) (left - 1)) else none)
noncomputable def oN {γ:Type} (o:Option (Option (AV×Itr))) (f:AV→Itr→Option γ) (g:Option γ):Option γ:=match o with
  | none=>none
  | some q=>match q with
    | none=>g
    | some (v,t)=>f v t
theorem oN_s {γ:Type} {r:Option γ} {o:Option (Option (AV×Itr))} {f:AV→Itr→Option γ} {g:Option γ} {v:AV} {t:Itr} (h:o=some (some (v,t))) (e:f v t=r):oN o f g=r:=by rw [h]; exact e
theorem oN_n {γ:Type} {r:Option γ} {o:Option (Option (AV×Itr))} {f:AV→Itr→Option γ} {g:Option γ} (h:o=some none) (e:g=r):oN o f g=r:=by rw [h]; exact e
theorem oN_i {γ:Type} {r:γ} {G:Prop} {o:Option (Option (AV×Itr))} {f:AV→Itr→Option γ} {g:Option γ} (e:oN o f g=some r) (K:∀ v t,o=some (some (v,t))→f v t=some r→G) (K':o=some none→g=some r→G):G:=by
  cases o with
  | none=>exact no_some e
  | some q=>cases q with
    | none=>exact K' rfl e
    | some q=>exact K q.1 q.2 rfl e
noncomputable def ItAt (h:Heap) (ι:List Addr) (I:Addr):Itr→Prop
  | .list k i=>∃ l,ι[k]?=some l∧h.IsListIter I l i
  | .range x left=>IsRangeIter h I x left 1
section
variable {w:World} {A:Around} {E:Value→Shared→Prop} {g₀ g:Heap} {s:Shared} {ι:List Addr} {δ:List (Option Addr)} {H H':Hp} {v:AV} {L:Addr} {m:Str→Option Value} {env:Env} {cs:Scope} {cl:List (Str×Addr)} {ρ:Loc}
theorem p_next1 (hh:A.handled=none) (C:Conc w.params g s.heap ι δ H) {I:Addr} (hI:I ∉ owned ι δ) (gI:g.get? I=none) {t:Itr} (T:ItAt s.heap ι I t) {v:AV} {t':Itr} (e:t.next H=some (some (v,t'))) {Q:Option Value→Shared→Prop}
    (K:∀ (s':Shared) (v':Value),Conc w.params g s'.heap ι δ H→ItAt s'.heap ι I t'→VR ι v' v→Rest s s'→(∀ (b:Addr) (o:Obj),b≠I→s.heap.get? b=some o→s'.heap.get? b=some o)→Q (some v') s') :
    wpAny (model pg w) A (pyNext (.ref I)) Q E s:=by
  cases t with
  | list k i=>
    obtain ⟨l,hl,T⟩:=T
    refine atList_i e fun xs ho e=>map_i (Option.some.inj e) fun x hv e=>?_
    cases e
    refine C.list hl ho fun vs n ga rs _=>?_
    obtain ⟨v',h1,h2⟩:=rs.at hv
    refine wpAny_pyNext_list_item T (isList_of ga) (by simpa using h1) fun h' T' sb=>?_
    have kp:∀ (b:Addr) (o:Obj),b≠I→s.heap.get? b=some o→h'.get? b=some o:=fun b o hb e=>(sb.2 b hb).trans e
    exact K _ v' (C.but hI gI kp) ⟨l,hl,T'⟩ h2 ⟨rfl,rfl⟩ kp
  | range x left=>
    refine if_i (Option.some.inj e) fun hp e=>?_
    cases e
    refine wpAny_pyNext_range_item T hp fun h' T' sb=>?_
    have kp:∀ (b:Addr) (o:Obj),b≠I→s.heap.get? b=some o→h'.get? b=some o:=fun b o hb e=>(sb.2 b hb).trans e
    exact K _ _ (C.but hI gI kp) T' (.int _ _) ⟨rfl,rfl⟩ kp
theorem p_next0 (hh:A.handled=none) (C:Conc w.params g s.heap ι δ H) {I:Addr} (hI:I ∉ owned ι δ) (gI:g.get? I=none) {t:Itr} (T:ItAt s.heap ι I t) (e:t.next H=some none) {Q:Option Value→Shared→Prop}
    (K:∀ (s':Shared),Conc w.params g s'.heap ι δ H→Rest s s'→(∀ (b:Addr) (o:Obj),b≠I→s.heap.get? b=some o→s'.heap.get? b=some o)→Q none s') :
    wpAny (model pg w) A (pyNext (.ref I)) Q E s:=by
  cases t with
  | list k i=>
    obtain ⟨l,hl,T⟩:=T
    refine atList_i e fun xs ho e=>C.list hl ho fun vs n ga rs _=>?_
    have hv:=Option.map_eq_none_iff.mp (Option.some.inj e)
    exact wpAny_pyNext_list_end hh T (isList_of ga) (by
      rw [List.getElem?_toArray]
      rw [List.getElem?_eq_none_iff] at hv ⊢
      rw [rs.len]; exact hv) fun h' sb=>K _ (C.but hI gI sb) ⟨rfl,rfl⟩ sb
  | range x left=>
    have hp:¬ 0<left:=fun q=>by rw [Itr.next,if_pos q] at e; cases e
    exact wpAny_pyNext_range_end hh T (Int.not_lt.mp hp) fun h' sb=>K _ (C.but hI gI sb) ⟨rfl,rfl⟩ sb
theorem ItAt.mono {h h':Heap} {ι ι':List Addr} {I:Addr} {t:Itr} (T:ItAt h ι I t) (p:ι<+:ι') (k:∀ (o:Obj),h.get? I=some o→h'.get? I=some o):ItAt h' ι' I t:=by
  cases t with
  | list kk i=>obtain ⟨l,hl,o,h1,h2⟩:=T; exact ⟨l,pre_get p hl,o,k _ h1,h2⟩
  | range x left=>exact k _ T
theorem ItAt.obj {h:Heap} {ι:List Addr} {I:Addr} {t:Itr} (T:ItAt h ι I t):∃ o,h.get? I=some o:=by
  cases t with
  | list kk i=>obtain ⟨l,hl,o,h1,h2⟩:=T; exact ⟨o,h1⟩
  | range x left=>exact ⟨_,T⟩
noncomputable def frzL (h:Heap) (ι:List Addr) (δ:List (Option Addr)) (L:Addr):Heap:=hideAll h (L::owned ι δ)
theorem Conc.keepL (C:Conc w.params g s.heap ι δ H) (gL:g.get? L=none):∀ (b:Addr) (o:Obj),g.get? b=some o→(frzL s.heap ι δ L).get? b=some o:=fun b o e=>
  hideAll_get _ (C.keep b o e) (fun z=>by
    rcases List.mem_cons.mp z with z | z
    · rw [z,gL] at e; cases e
    · exact C.notOwned e z)
theorem Conc.frzL (C:Conc w.params g s.heap ι δ H):Conc w.params (frzL s.heap ι δ L) s.heap ι δ H:=
  { C with keep:=fun b o e=>of_hideAll _ e,gi:=fun k a e=>hideAll_none _ (.tail _ (mem_owned.mpr (.inl ⟨k,e⟩))),gd:=fun k d e=>hideAll_none _ (.tail _ (mem_owned.mpr (.inr ⟨k,e⟩))) }
theorem Sx.body (X:Sx w g₀ g s ι δ env cs cl L m ρ) (C:Conc w.params g s.heap ι δ H):Sx w g₀ (Mine.frzL s.heap ι δ L) s ι δ env cs cl L m ρ:=
  { X with
    kp:=fun b o e=>C.keepL X.gL b o (X.kp b o e)
    gL:=hideAll_none _ (.head _)
    ce:=fun x c e=>let ⟨o,h⟩:=X.ce x c e; ⟨o,C.keepL X.gL _ _ h⟩
    lr:=fun x v e=>let ⟨v',r,h⟩:=X.lr x v e
      ⟨v',r,h.imp id fun ⟨c,o,h1,h2,h3,h4⟩=>⟨c,o,h1,h2,C.keepL X.gL _ _ h3,h4⟩⟩ }
theorem Sx.unbody (X:Sx w g₀ g s ι δ env cs cl L m ρ) (C:Conc w.params g s.heap ι δ H) {s':Shared} {ι':List Addr} {δ':List (Option Addr)} {m':Str→Option Value} {ρ':Loc}
    (X':Sx w g₀ (Mine.frzL s.heap ι δ L) s' ι' δ' env cs cl L m' ρ') (C':Conc w.params (Mine.frzL s.heap ι δ L) s'.heap ι' δ' H'):Sx w g₀ g s' ι' δ' env cs cl L m' ρ'∧Conc w.params g s'.heap ι' δ' H':=
  ⟨{ X' with
    kp:=X.kp
    gL:=X.gL
    ce:=X.ce
    lr:=fun x v e=>let ⟨v',r,h⟩:=X'.lr x v e
      ⟨v',r,h.imp id fun ⟨c,o,h1,h2,h3,h4⟩=>by
        obtain ⟨o',h5⟩:=X.ce x c h2
        have h6:=C.keepL X.gL _ _ h5
        rw [h3] at h6
        cases h6
        exact ⟨c,o,h1,h2,h5,h4⟩⟩ },C'.weaken (C.keepL X.gL)⟩
end
noncomputable def LInv (w:World) (g₀ g:Heap) (env:Env) (cs:Scope) (cl:List (Str×Addr)) (L:Addr) (ρ':Loc) (H':Hp) (f:Fl) (Q:Flow→Shared→Prop) (s:Shared) (T:List Addr→List (Option Addr)→Loc→Hp→Prop):Prop:=
  ∀ G:Prop,(∀ ι δ m ρ H,Sx w g₀ g s ι δ env cs cl L m ρ→Conc w.params g s.heap ι δ H→RetS w g₀ g s ι env cs cl L ρ' H' f Q→T ι δ ρ H→G)→G
noncomputable def whileGo (t:EX) (b:SX):Nat→SX
  | 0=>fun _ _=>none
  | k+1=>fun ρ H=>oBool (t ρ H) fun c H1=>if c then oF (b ρ H1) (whileGo t b k) fun v ρ2 H2=>some (.ret v,ρ2,H2) else some (.next,ρ,H1)
noncomputable def fuelN:Nat:=2 ^ 40
noncomputable def sWhile (t:EX) (b:SX):SX:=whileGo t b fuelN
theorem while_turn {cs:Scope} {n k:Nat} {t:EX} {b:SX} {te:Expr} {bs:List Stmt} (ht:ST cs n t te) (hb:SB cs n b bs) {w:World} {A:Around} {E:Value→Shared→Prop} {g₀ g:Heap} {s:Shared} {ι:List Addr} {δ:List (Option Addr)} {H H':Hp} {f:Fl} {L:Addr} {m:Str→Option Value} {env:Env} {cl:List (Str×Addr)} {ρ ρ':Loc} {PF PZ PR:Flow→Shared→Prop} (hR:∀ v s,PR (.ret v) s→PF (.ret v) s) (hZ:∀ s,PR .next s→PZ .next s)
    (X:Sx w g₀ g s ι δ env cs cl L m ρ) (R:Room A n) (C:Conc w.params g s.heap ι δ H) (e:whileGo t b (k+1) ρ H=some (f,ρ',H')) (K:RetS w g₀ g s ι env cs cl L ρ' H' f PR)
    (KN:∀ s' ι' δ' m1 ρ1 H1,Sx w g₀ g s' ι' δ' env cs cl L m1 ρ1→Conc w.params g s'.heap ι' δ' H1→ι<+:ι'→Rest s s'→whileGo t b k ρ1 H1=some (f,ρ',H')→PF .next s') :
    wpAny (model pg w) A (isTrue te env (eval te env)) (fun b s₂=>if b then wpAny (model pg w) A (execs bs env) PF E s₂ else wpAny (model pg w) A (execs [] env) PZ E s₂) E s:=
  oBool_i e fun c H2 e2 e=>X.tr C ht R e2 fun s2 ι2 δ2 X2 C2 p2 q2=>by
    cases c
    · exact wpAny_execs_nil (hZ _ (by cases e; exact K _ _ _ _ _ X2 C2 p2 .next q2))
    · exact oF_i e (fun ρ3 H3 e3 e=>hb w g₀ g ι2 δ2 H2 m ρ ρ3 env L cl A _ s2 _ _ _ X2 R C2 e3 fun s3 ι3 δ3 m3 f3 X3 C3 p3 r3 q3=>flN r3 (KN _ _ _ _ _ _ X3 C3 (p2.trans p3) (q2.trans q3) e))
        (fun v ρ3 H3 e3 e=>hb w g₀ g ι2 δ2 H2 m ρ _ env L cl A _ s2 _ _ _ X2 R C2 e3 fun s3 ι3 δ3 m3 f3 X3 C3 p3 r3 q3=>flR r3 fun v' r=>hR _ _ (K.eqs e _ _ _ _ _ X3 C3 (p2.trans p3) (.ret r) (q2.trans q3)))
theorem ss_while {cs:Scope} {n:Nat} {t:EX} {b:SX} {te:Expr} {bs:List Stmt} (p:Pos) (ht:ST cs n t te) (hb:SB cs n b bs):SS cs n (sWhile t b) (.While te bs [] p):=
  fun w g₀ g ι δ H m ρ ρ' env L cl A E s Q f H' X R C e K=>
    wpAny_While (codeAny_whileLoop (fun k s1=>LInv w g₀ g env cs cl L ρ' H' f Q s1 fun _ _ ρ1 H1=>whileGo t b k ρ1 H1=some (f,ρ',H'))
      (fun k s1 h=>h _ fun ι1 δ1 m1 ρ1 H1 X1 C1 K1 e1=>by
        cases k with
        | zero=>exact no_some e1
        | succ k=>exact while_turn ht hb (PR:=Q) (fun _ _ h=>h) (fun _ h=>h) X1 R C1 e1 K1 fun s' ι' δ' m1 ρ1 H1 X C p q e=>⟨k,Nat.lt_succ_self k,fun G g=>g ι' δ' m1 ρ1 H1 X C (K1.trans p q) e⟩)
      fuelN fun G g=>g ι δ m ρ H X C K e)
noncomputable abbrev IX:=Loc→Hp→Option (Itr×Hp)
noncomputable def RetI (Pm:Params) (g:Heap) (s:Shared) (ι:List Addr) (H':Hp) (t:Itr) (Q:Value→Shared→Prop):Prop:=
  ∀ (s':Shared) (ι':List Addr) (δ':List (Option Addr)) (I:Addr),Conc Pm g s'.heap ι' δ' H'→ι<+:ι'→ItAt s'.heap ι' I t→I ∉ owned ι' δ'→g.get? I=none→Rest s s'→Q (.ref I) s'
theorem RetI.eqs {Pm:Params} {g:Heap} {s:Shared} {ι:List Addr} {H' H1:Hp} {t t1:Itr} {Q:Value→Shared→Prop} (K:RetI Pm g s ι H' t Q) (e:some (t1,H1)=some (t,H')):RetI Pm g s ι H1 t1 Q:=by cases e; exact K
noncomputable def SI (cs:Scope) (n:Nat) (c:IX) (e:Expr):Prop:=
  ∀ (w:World) (g₀ g:Heap) (ι:List Addr) (δ:List (Option Addr)) (H:Hp) (m:Str→Option Value) (ρ:Loc) (env:Env) (L:Addr) (cl:List (Str×Addr)) (A:Around) (E:Value→Shared→Prop) (s:Shared) (Q:Value→Shared→Prop) (t:Itr) (H':Hp),
    Cx w g₀ g ι env cs cl L m ρ→Room A n→Conc w.params g s.heap ι δ H→c ρ H=some (t,H')→RetI w.params g s ι H' t Q→
    wpAny (model pg w) A (eval e env) (fun x s1=>wpAny (model pg w) A (pyIter x) Q E s1) E s
noncomputable def forGo (d:TX) (b:SX):Nat→Itr→SX
  | 0,_=>fun _ _=>none
  | k+1,t=>fun ρ H=>oN (t.next H) (fun v t'=>oB (d v ρ H) fun ρ1 H1=>oF (b ρ1 H1) (forGo d b k t') fun v ρ2 H2=>some (.ret v,ρ2,H2)) (some (.next,ρ,H))
noncomputable def sFor (i:IX) (d:TX) (b:SX):SX:=fun ρ H=>oB (i ρ H) fun t H1=>forGo d b fuelN t ρ H1
theorem fold_pure {e:Expr} {env:Env} (h:noSet e=true) (x:Value):foldedSetIterable e env x=pure x:=by
  cases e <;> first | rfl | exact (Bool.false_ne_true h).elim
theorem letGo_it {h:Heap} {ι:List Addr} {I:Addr} {t:Itr} {w:World} {A:Around} {E:Value→Shared→Prop} {s':Shared} {target:Expr} {v:Value} {Q:Unit→Shared→Prop} (T:ItAt s'.heap ι I t) (hQ:Q () s'):wpAny (model pg w) A (letOwnedTupleGo target (.ref I) v) Q E s':=by
  cases t with
  | list k i=>obtain ⟨l,hl,T⟩:=T; exact letGo_listiter T hQ
  | range x left=>
    unfold letOwnedTupleGo
    cases target <;> first
      | exact wpAny_pure hQ
      | (cases v <;> first
          | exact wpAny_pure hQ
          | (refine wpAny_bind (wpAny_load T ?_)
             exact wpAny_pure hQ))
theorem Sx.keepBut {cs:Scope} {w:World} {g₀ g:Heap} {s:Shared} {ι:List Addr} {δ:List (Option Addr)} {L:Addr} {m:Str→Option Value} {env:Env} {cl:List (Str×Addr)} {ρ:Loc} {s2:Shared} {I:Addr} (X:Sx w g₀ g s ι δ env cs cl L m ρ) (gI:g.get? I=none) (hIL:I≠L) (kp:∀ (b:Addr) (o:Obj),b≠I→s.heap.get? b=some o→s2.heap.get? b=some o):Sx w g₀ g s2 ι δ env cs cl L m ρ:=
  { X with F:=Fr.onto X.F (fun b o e=>kp b o (fun z=>by rw [z] at e; rw [X.kp _ _ e] at gI; cases gI) (X.F.keep b o e)) (fun o e=>kp L o (Ne.symm hIL) e) }
theorem frzL_get {s:Shared} {ι:List Addr} {δ:List (Option Addr)} {L I:Addr} {o:Obj} (h:s.heap.get? I=some o) (hL:I≠L) (hI:I ∉ owned ι δ):(frzL s.heap ι δ L).get? I=some o:=
  hideAll_get _ h fun z=>(List.mem_cons.mp z).elim hL hI
theorem for_turn {cs:Scope} {n k:Nat} {d:TX} {b:SX} {te:Expr} {bs:List Stmt} (hd:SA cs n d te) (hb:SB cs n b bs) {w:World} {A:Around} {E:Value→Shared→Prop} {g₀ g:Heap} {s:Shared} {ι:List Addr} {δ:List (Option Addr)} {H H':Hp} {f:Fl} {L:Addr} {m:Str→Option Value} {env:Env} {cl:List (Str×Addr)} {ρ ρ':Loc} {I:Addr} {t:Itr} {PN:Option Value→Shared→Prop} {PF PZ PR:Flow→Shared→Prop}
    (h0:∀ s,wpAny (model pg w) A (execs [] env) PZ E s→PN none s) (h1:∀ v s,wpAny (model pg w) A (letOwnedTupleGo te (.ref I) v) (fun _ s1=>wpAny (model pg w) A (assign te env v) (fun _ s2=>wpAny (model pg w) A (execs bs env) PF E s2) E s1) E s→PN (some v) s)
    (hR:∀ v s,PR (.ret v) s→PF (.ret v) s) (hZ:∀ s,PR .next s→PZ .next s)
    (X:Sx w g₀ g s ι δ env cs cl L m ρ) (R:Room A n) (C:Conc w.params g s.heap ι δ H) (T:ItAt s.heap ι I t) (hI:I ∉ owned ι δ) (gI:g.get? I=none) (hIL:I≠L) (e:forGo d b (k+1) t ρ H=some (f,ρ',H')) (K:RetS w g₀ g s ι env cs cl L ρ' H' f PR)
    (KN:∀ s' ι' δ' m1 ρ1 H1 t',Sx w g₀ g s' ι' δ' env cs cl L m1 ρ1→Conc w.params g s'.heap ι' δ' H1→ι<+:ι'→Rest s s'→ItAt s'.heap ι' I t'→I ∉ owned ι' δ'→forGo d b k t' ρ1 H1=some (f,ρ',H')→PF .next s') :
    wpAny (model pg w) A (pyNext (.ref I)) PN E s:=
  oN_i e (fun v t' e2 e=>oB_i e fun ρ3 H3 e3 e=>p_next1 R.h C hI gI T e2 fun s2 v' C2 T2 r2 q2 kp=>h1 _ _ (letGo_it (h:=s2.heap) T2 (by
      have X2:=X.keepBut gI hIL kp
      obtain ⟨oI,hoI⟩:=T2.obj
      have hIb:=frzL_get hoI hIL hI
      refine hd w g₀ _ ι δ H m ρ ρ3 env L cl A _ s2 _ v v' H3 (X2.body C2) R C2.frzL r2 e3 fun s3 ι3 δ3 m3 X3 C3 p3 q3=>oF_i e (fun ρ4 H4 e4 e=>?_) (fun v3 ρ4 H4 e4 e=>?_)
      · exact hb w g₀ _ ι3 δ3 H3 m3 ρ3 ρ4 env L cl A _ s3 _ _ _ X3 R C3 e4 fun s4 ι4 δ4 m4 f4 X4 C4 p4 r4 q4=>flN r4
          (KN s4 ι4 δ4 m4 ρ4 H4 t' (X2.unbody C2 X4 C4).1 (X2.unbody C2 X4 C4).2 (p3.trans p4) (q2.trans (q3.trans q4)) (T2.mono (p3.trans p4) fun o ho=>by rw [hoI] at ho; cases ho; exact C4.keep _ _ hIb) (C4.notOwned hIb) e)
      · exact hb w g₀ _ ι3 δ3 H3 m3 ρ3 _ env L cl A _ s3 _ _ _ X3 R C3 e4 fun s4 ι4 δ4 m4 f4 X4 C4 p4 r4 q4=>flR r4 fun v' r=>
          hR _ _ (K.eqs e _ _ _ _ _ (X2.unbody C2 X4 C4).1 (X2.unbody C2 X4 C4).2 (p3.trans p4) (.ret r) (q2.trans (q3.trans q4))))))
    (fun e2 e=>p_next0 R.h C hI gI T e2 fun s2 C2 q2 kp=>h0 _ (wpAny_execs_nil (hZ _ (by cases e; exact K _ _ _ _ _ (X.keepBut gI hIL kp) C2 (List.prefix_refl _) .next q2))))
theorem Sx.apart {cs:Scope} {w:World} {g₀ g:Heap} {s:Shared} {ι:List Addr} {δ:List (Option Addr)} {L:Addr} {m:Str→Option Value} {env:Env} {cl:List (Str×Addr)} {ρ:Loc} {I:Addr} (X:Sx w g₀ g s ι δ env cs cl L m ρ) (gI:(frz s.heap ι δ).get? I=none):I≠L:=by
  rintro rfl
  obtain ⟨oL,_,_,hL,_⟩:=X.F.ns
  rw [frz_get hL X.nL] at gI
  cases gI
theorem Conc.gFrz {Pm:Params} {g h:Heap} {ι:List Addr} {δ:List (Option Addr)} {H:Hp} {I:Addr} (C:Conc Pm g h ι δ H) (gI:(Mine.frz h ι δ).get? I=none):g.get? I=none:=by
  cases q:g.get? I with
  | none=>rfl
  | some o=>rw [C.frz_keep _ _ q] at gI; cases gI
theorem ss_for {cs:Scope} {n:Nat} {i:IX} {d:TX} {b:SX} {te ie:Expr} {bs:List Stmt} (p:Pos) (hs:noSet ie=true) (hi:SI cs n i ie) (hd:SA cs n d te) (hb:SB cs n b bs):SS cs n (sFor i d b) (.For te ie bs [] p):=
  fun w g₀ g ι δ H m ρ ρ' env L cl A E s Q f H' X R C e K=>oB_i e fun t H0 e0 e=>
    wpAny_For (hi w g₀ _ ι δ H m ρ env L cl A _ s _ t H0 (X.cx C) R C.frz e0 fun s0 ι0 δ0 I C0 p0 T0 I0 gI q0=>
      codeAny_forLoop_any (fun k s1=>LInv w g₀ g env cs cl L ρ' H' f Q s1 fun ι1 δ1 ρ1 H1=>∃ t1,ItAt s1.heap ι1 I t1∧I ∉ owned ι1 δ1∧forGo d b k t1 ρ1 H1=some (f,ρ',H'))
        (fun k s1 h=>h _ fun ι1 δ1 m1 ρ1 H1 X1 C1 K1 ⟨t1,T1,I1,e1⟩=>by
          cases k with
          | zero=>exact no_some e1
          | succ k=>exact for_turn hd hb (PR:=Q) (fun _ h=>h) (fun _ _ h=>h) (fun _ _ h=>h) (fun _ h=>h) X1 R C1 T1 I1 (C.gFrz gI) (X.apart gI) e1 K1 fun s' ι' δ' m1 ρ1 H1 t' X C p q T n e=>⟨k,Nat.lt_succ_self k,fun G g=>g ι' δ' m1 ρ1 H1 X C (K1.trans p q) ⟨t',T,n,e⟩⟩)
        fuelN fun G g=>g ι0 δ0 m ρ H0 (X.back C C0 p0).1 (X.back C C0 p0).2 (K.trans p0 q0) ⟨t,T0,I0,e⟩) (fold_pure hs)
end Mine
end
section
open PySem PySem.W PyProof.Rows PySem.Calls
set_option Elab.async false
set_option linter.all false
set_option autoImplicit false
set_option maxRecDepth 10000
namespace Mine
noncomputable def iList (c:EX):IX:=fun ρ H=>oRef (c ρ H) fun k H1=>atList H1[k]? fun _=>some (.list k 0,H1)
noncomputable def rg1 (b:Int) (H:Hp):Option (Itr×Hp):=if -1000000≤b∧b≤1000000 then some (.range 0 (max 0 b),H) else none
noncomputable def rg2 (a b:Int) (H:Hp):Option (Itr×Hp):=if -1000000≤a∧a≤1000000∧-1000000≤b∧b≤1000000 then some (.range a (max 0 (b - a)),H) else none
noncomputable def iRange (l:List EX):IX:=fun ρ H=>oB (eArgs l ρ H) fun vs H1=>if vs.length=1 then one vs fun v=>asInt v fun b=>rg1 b H1 else two vs fun v u=>asInt v fun a=>asInt u fun b=>rg2 a b H1
theorem si_list {cs:Scope} {n:Nat} {c:EX} {e:Expr} (h:SE cs n c e):SI cs n (iList c) e:=
  fun w g₀ g ι δ H m ρ env L cl A E s Q t H' X R C e K=>oRef_i e fun k H1 e1 e=>atList_i e fun xs ho e=>
    h w g₀ g ι δ H m ρ env L cl A E s _ _ _ X R C e1 fun s1 ι1 δ1 v1 C1 p1 r1 q1=>vR r1 fun ad ha=>C1.list ha ho fun vs nn ga rs _=>
      wpAny_pyIter_list (isList_of ga) (K.eqs e _ ι1 δ1 s1.heap.objs.size (C1.grow fun b o e=>Heap.get?_push_of_some _ e) p1 ⟨ad,ha,⟨_,Heap.get?_push_size _ rfl,rfl,rfl⟩⟩ C1.noSize (C1.gNone (fresh_size _)) ⟨q1.1,q1.2⟩)
theorem range_small {a b:Int} (h:-1000000≤a∧a≤1000000∧-1000000≤b∧b≤1000000):Builtin.Range.small a b 1=true:=by
  exact small_one (by lia) (by lia) (by lia) (by lia)
theorem range_size (a b:Int):Builtin.Range.rangeSize a b 1=max 0 (b - a):=by
  unfold Builtin.Range.rangeSize
  simp
  split <;> lia
theorem p_rangeIter {w:World} {A:Around} {E:Value→Shared→Prop} {g:Heap} {s:Shared} {ι:List Addr} {δ:List (Option Addr)} {H:Hp} {a b:Int} {Q:Value→Shared→Prop} (h:-1000000≤a∧a≤1000000∧-1000000≤b∧b≤1000000)
    (C:Conc w.params g s.heap ι δ H) {o:Obj} {t u v:Tok} (ho:o={ cls:=.type "range",data:=.fields #[.int a t,.int b u,.int 1 v] }) {tk:Nat}
    (K:∀ (s':Shared) (I:Addr),Conc w.params g s'.heap ι δ H→ItAt s'.heap ι I (.range a (max 0 (b - a)))→I ∉ owned ι δ→g.get? I=none→Rest s s'→Q (.ref I) s') :
    wpAny (model pg w) A (pyIter (.ref s.heap.objs.size)) Q E { s with heap:=s.heap.push o,toks:=tk }:=by
  subst ho
  refine wpAny_pyIter_range (a:=a) (b:=b) (c:=1) (t:=t) (u:=u) (v:=v) (Heap.get?_push_size _ rfl) (range_small h) ?_
  have kp1:∀ (x:Addr) (y:Obj),s.heap.get? x=some y→(s.heap.push { cls:=.type "range",data:=.fields #[.int a t,.int b u,.int 1 v] }).get? x=some y:=fun x y e=>Heap.get?_push_of_some _ e
  have C1:=C.grow kp1
  have fr:=fresh_of (h':=s.heap.push { cls:=.type "range",data:=.fields #[.int a t,.int b u,.int 1 v] }) kp1
  have no:(s.heap.push { cls:=.type "range",data:=.fields #[.int a t,.int b u,.int 1 v] }).objs.size ∉ owned ι δ:=fun z=>by
    rcases mem_owned.mp z with ⟨j,z⟩ | ⟨j,z⟩
    · obtain ⟨y,hy⟩:=C.get_i z; rw [fr] at hy; cases hy
    · obtain ⟨y,hy⟩:=C.get_d z; rw [fr] at hy; cases hy
  refine K _ _ (C1.grow fun x y e=>Heap.get?_push_of_some _ e) ?_ no (C.gNone fr) ⟨rfl,rfl⟩
  have:=Heap.get?_push_size (s.heap.push { cls:=.type "range",data:=.fields #[.int a t,.int b u,.int 1 v] }) (o:={ cls:=.type "range_iterator",data:=.fields #[rawInt a,rawInt (Builtin.Range.rangeSize a b 1),rawInt 1] }) rfl
  rw [range_size] at this
  rw [range_size]
  exact this
theorem si_range {cs:Scope} {n:Nat} {l:List EX} {es:List Expr} (px p:Pos) (hg:isGlob cs "range" = true) (h:SEs cs n l es) (hs:es.all noStar=true) (hne:es≠[]):SI cs n (iRange l) (.Call (.Name "range" px) es [] p):=by
  intro w g₀ g ι δ H m ρ env L cl A E s Q t H' X R C e K
  obtain ⟨k1,k2⟩:=glob_kind hg
  obtain ⟨f1,f2,f3⟩:=blt_glob (Pm:=w.params) (x := "range") (f:=.type "range") rfl
  obtain ⟨mg,mb,T⟩:=X.S.top
  refine Call_Name rfl (name_B X.ev X.fn (X.Fh C) X.S.K T f1 f2 f3 ?_ k1 k2)
  exact oB_i e fun vs H1 e1 e=>cw_T h hs hne (first:=[]) X R C e1 fun s1 ι1 δ1 vs' C1 p1 r1 q1=>ite_i e
    (fun _ e=>oneV r1 e fun v a r e=>vIE r e fun b u e=>if_i e fun hr e=>call_range_1 (p_rangeIter ⟨by decide,by decide,hr⟩ C1 rfl fun s2 I C2 T2 I2 g2 q2=>
      K.eqs e s2 ι1 δ1 I C2 p1 (Int.sub_zero b ▸ T2) I2 g2 (q1.trans q2)))
    (fun _ e=>twoV r1 e fun v u a b r r' e=>vIE r e fun a t e=>vIE r' e fun b t' e=>if_i e fun hr e=>call_range_2 (p_rangeIter hr C1 rfl fun s2 I C2 T2 I2 g2 q2=>
      K.eqs e s2 ι1 δ1 I C2 p1 T2 I2 g2 (q1.trans q2)))
noncomputable def sAssign (c:EX) (d:TX):SX:=fun ρ H=>oB (c ρ H) fun v H1=>oB (d v ρ H1) fun ρ1 H2=>some (.next,ρ1,H2)
noncomputable def swOk (value t:Expr):Bool:=noComp value || t.ctorIdx != 23
theorem swOk_eq {value t:Expr} {k:Nat} {env:Env} (h:swOk value t=true):swapsWithSole [t] value k env=pure false:=by
  show swapsWith value (some t) k env=pure false
  rcases (Bool.or_eq_true _ _).mp h with h | h
  · exact noComp_swaps h
  · unfold swapsWith
    split
    · cases t <;> first | rfl | exact (Bool.false_ne_true h).elim
    · rfl
theorem ss_assign {cs:Scope} {n:Nat} {c:EX} {d:TX} {e t:Expr} (p:Pos) (h1:swOk e t=true) (h2:∀ (env:Env),env.scope=cs→swappedStores [t] e env=pure none) (hs:noStar t=true) (hc:SE cs n c e) (hd:SA cs n d t):SS cs n (sAssign c d) (.Assign [t] e p):=
  fun w g₀ g ι δ H m ρ ρ' env L cl A E s Q f H' X R C e K=>oB_i e fun v H1 e1 e=>oB_i e fun ρ1 H2 e2 e=>
    wpAny_Assign_stores (X.ex C hc R e1 fun s1 ι1 δ1 v1 X1 C1 p1 r1 q1=>by
      rw [assignEach_cons hs]
      exact hd w g₀ g ι1 δ1 H1 m ρ _ env L cl A E s1 _ v v1 H2 X1 R C1 r1 e2 ((K.eqs e).trans p1 q1).nextA) (swOk_eq h1) (h2 _ X.ev.sc)
end Mine
end
section
open PySem PySem.W PyProof.Rows PySem.Calls
set_option Elab.async false
set_option linter.all false
set_option autoImplicit false
set_option maxRecDepth 10000
namespace Mine
noncomputable def lineOf (ts:List Expr):Nat:=(ts.head?.map (·.pos.line)).getD 0
noncomputable def swNames (cs:Scope) (ts:List Expr):List Str:=ts.filterMap fun
  | .Name id pos=>if cs.names.lookup id == some .local && pos.line == lineOf ts then some id else none
  | _=>none
noncomputable def isStar:Expr→Bool
  | .Starred ..=>true
  | _=>false
noncomputable def swSize (ts vs:List Expr):Bool:=(ts.length == 2 || ts.length == 3) && vs.length == ts.length
noncomputable def swUp (cs:Scope) (ts:List Expr):Bool:=(swNames cs ts).length == ts.length && (swNames cs ts).eraseDups.length == (swNames cs ts).length
noncomputable def swB (cs:Scope) (ts vs:List Expr):Bool:=swSize ts vs && !vs.any isStar && swUp cs ts && !vs.all (foldedForSure 8) && !vs.all (constantsAlone 8)
noncomputable def swN (cs:Scope) (ts vs:List Expr):Bool:=!swSize ts vs || vs.any isStar || !swUp cs ts || vs.all (foldedForSure 8)
section
variable {cs:Scope} {ts vs:List Expr} {k k':Nat} {p p':Pos} {env:Env}
theorem sw_e1 (hk:cs.kind=.function) (he:env.scope=cs):(!(ts.length == 2 || ts.length == 3) || vs.length != ts.length || env.blockKind != .function)=!swSize ts vs:=by
  subst he
  have hb:env.blockKind=.function:=by unfold Env.blockKind; rw [hk]; rfl
  unfold swSize
  rw [hb]
  cases (ts.length == 2 || ts.length == 3) <;> cases h:(vs.length == ts.length) <;> simp [bne,h]
theorem sw_e3:((swNames cs ts).length != ts.length || (swNames cs ts).eraseDups.length != (swNames cs ts).length)=!swUp cs ts:=by
  unfold swUp bne
  rw [Bool.not_and]
theorem swap_some (hk:cs.kind=.function) (he:env.scope=cs) (h:swB cs ts vs=true):swappedStores [.Tuple ts k p] (.Tuple vs k' p') env=pure (some (swNames cs ts)):=by
  unfold swB at h
  simp only [Bool.and_eq_true,Bool.not_eq_true'] at h
  obtain ⟨⟨⟨⟨h1,h2⟩,h3⟩,h4⟩,h5⟩:=h
  unfold swappedStores
  dsimp only
  rw [sw_e1 hk he,h1]
  subst he
  show (if vs.any isStar=true then _ else if ((swNames env.scope ts).length != ts.length || (swNames env.scope ts).eraseDups.length != (swNames env.scope ts).length)=true then _ else _)=_
  rw [h2,sw_e3,h3,h4,h5]
  rfl
theorem swap_none (hk:cs.kind=.function) (he:env.scope=cs) (h:swN cs ts vs=true):swappedStores [.Tuple ts k p] (.Tuple vs k' p') env=pure none:=by
  unfold swN at h
  simp only [Bool.or_eq_true,Bool.not_eq_true'] at h
  unfold swappedStores
  dsimp only
  rw [sw_e1 hk he]
  cases h1:swSize ts vs with
  | false=>rfl
  | true=>
    subst he
    show (if vs.any isStar=true then _ else if ((swNames env.scope ts).length != ts.length || (swNames env.scope ts).eraseDups.length != (swNames env.scope ts).length)=true then _ else _)=_
    cases h2:vs.any isStar with
    | true=>rfl
    | false=>
      rw [sw_e3]
      cases h3:swUp env.scope ts with
      | false=>rfl
      | true=>
        rw [h1,h2,h3] at h
        simp only [Bool.true_eq_false,Bool.false_eq_true,false_or,or_false] at h
        rw [h]
        rfl
end
noncomputable def tupEs (e:Expr):Option (List Expr):=match e with
  | .Tuple es _ _=>some es
  | _=>none
noncomputable def swKind (cs:Scope) (t value:Expr):Option (Option (List Str)):=match tupEs t with
  | none=>if t.ctorIdx != 24 then some none else none
  | some ts=>match tupEs value with
    | none=>some none
    | some vs=>if swB cs ts vs then some (some (swNames cs ts)) else if swN cs ts vs then some none else none
theorem sw_t {t value:Expr} {env:Env} (h:tupEs t=none) (h2:(t.ctorIdx != 24)=true):swappedStores [t] value env=pure none:=by
  cases t <;> first | rfl | exact (Bool.false_ne_true h2).elim | exact nomatch h
theorem sw_v {ts:List Expr} {k:Nat} {p:Pos} {value:Expr} {env:Env} (h:tupEs value=none):swappedStores [.Tuple ts k p] value env=pure none:=by
  cases value <;> first | rfl | exact nomatch h
theorem tupEs_i {t:Expr} {ts:List Expr} (h:tupEs t=some ts):∃ k p,t=.Tuple ts k p:=by
  cases t <;> first | exact no_some h | exact ⟨_,_,congrArg (fun x=>Expr.Tuple x _ _) (Option.some.inj h)⟩
theorem swKind_eq {cs:Scope} (hk:cs.kind=.function) {t value:Expr} {env:Env} (he:env.scope=cs) {r:Option (List Str)} (h:swKind cs t value=some r):swappedStores [t] value env=pure r:=by
  unfold swKind at h
  cases ht:tupEs t with
  | none=>rw [ht] at h; exact if_i h fun h2 h=>Option.some.inj h ▸ sw_t ht h2
  | some ts=>
    rw [ht] at h
    obtain ⟨k,p,rfl⟩:=tupEs_i ht
    cases hv:tupEs value with
    | none=>rw [hv] at h; exact Option.some.inj h ▸ sw_v hv
    | some vs=>
      rw [hv] at h
      obtain ⟨k',p',rfl⟩:=tupEs_i hv
      exact ite_i h (fun h1 h=>Option.some.inj h ▸ swap_some hk he h1) fun _ h=>if_i h fun h1 h=>Option.some.inj h ▸ swap_none hk he h1
noncomputable def sSwap (cs:Scope) (c:EX) (names:List Str):SX:=fun ρ H=>oRef (c ρ H) fun k H1=>atTup H1[k]? fun xs=>oB (tSeq (names.reverse.map (tName cs)) xs.reverse ρ H1) fun ρ1 H2=>some (.next,ρ1,H2)
theorem sn_seq {cs:Scope}:∀ (names:List Str) (w:World) (g₀ g:Heap) (ι:List Addr) (δ:List (Option Addr)) (H:Hp) (m:Str→Option Value) (ρ ρ':Loc) (env:Env) (L:Addr) (cl:List (Str×Addr)) (A:Around) (E:Value→Shared→Prop) (s:Shared) (Q:Unit→Shared→Prop) (vs:List AV) (vs':List Value) (H':Hp),
    Sx w g₀ g s ι δ env cs cl L m ρ→Conc w.params g s.heap ι δ H→VRs ι vs' vs→tSeq (names.map (tName cs)) vs ρ H=some (ρ',H')→RetA w g₀ g s ι env cs cl L ρ' H' Q→
    wpAny (model pg w) A (assignInOrder (names.map fun n=>bindName env n) vs') Q E s:=by
  intro names
  induction names with
  | nil=>
    exact fun w g₀ g ι δ H m ρ ρ' env L cl A E s Q vs vs' H' X C r e K=>tSeq_0 e fun q e=>by
      subst q
      rw [r.of_nil]
      exact wpAny_pure (K.eqs e _ _ _ _ X C (List.prefix_refl _) (Rest.refl _))
  | cons x names ih=>
    exact fun w g₀ g ι δ H m ρ ρ' env L cl A E s Q vs vs' H' X C r e K=>tSeq_i e fun v ws ρ1 H1 q e1 e'=>by
      subst q
      obtain ⟨v',ws',rfl,r1,r2⟩:=r.of_cons
      exact wpAny_bind (wpAny_holding (wpAny_bindName (st_name x w g₀ g ι δ H m ρ ρ1 env L cl A E s _ v v' H1 X C r1 e1 fun s1 ι1 δ1 m1 X1 C1 p1 q1=>
        ih w g₀ g ι1 δ1 H1 m1 ρ1 ρ' env L cl A E s1 _ ws ws' H' X1 C1 (r2.mono p1) e' (K.trans p1 q1))))
theorem VRs.reverse {ι:List Addr}:∀ {vs:List Value} {xs:List AV},VRs ι vs xs→VRs ι vs.reverse xs.reverse:=by
  intro vs
  induction vs with
  | nil=>exact fun r=>by rw [List.length_eq_zero_iff.mp r.len.symm]; exact .nil
  | cons v vs ih=>
    intro xs r
    cases xs with
    | nil=>exact nomatch r.len
    | cons x xs=>
      rw [List.reverse_cons,List.reverse_cons]
      exact (ih r.tail).append (.cons r.head .nil)
theorem sw_len {cs:Scope} {names:List Str} {xs:List AV} {vs:List Value} {ι:List Addr} {ρ:Loc} {H:Hp} {r:Loc×Hp} (e:tSeq (names.reverse.map (tName cs)) xs.reverse ρ H=some r) (rs:VRs ι vs xs):names.length=vs.toArray.size:=by
  have:=tSeq_len e
  rw [List.length_map,List.length_reverse,List.length_reverse] at this
  exact this.trans rs.len.symm
theorem ss_swap {cs:Scope} {n:Nat} {c:EX} {e t:Expr} {names:List Str} (p:Pos) (h1:swOk e t=true) (h2:∀ (env:Env),env.scope=cs→swappedStores [t] e env=pure (some names)) (hc:SE cs n c e):SS cs n (sSwap cs c names) (.Assign [t] e p):=
  fun w g₀ g ι δ H m ρ ρ' env L cl A E s Q f H' X R C e' K=>oRef_i e' fun k H1 e1 e'=>atTup_i e' fun xs ho e'=>oB_i e' fun ρ1 H2 e2 e'=>by
    rw [exec_Assign_arm]
    refine wpAny_bind (wpAny_standAt (wpAny_bind (wpAny_of_eq (swOk_eq h1) (wp_f Bool.false_ne_true (wpAny_bind (X.ex C hc R e1 fun s1 ι1 δ1 v1 X1 C1 p1 r1 q1=>wpAny_bind (wpAny_of_eq (h2 _ X.ev.sc) ?_)))))))
    refine vR r1 fun ad ha=>C1.tup ha ho fun vs nn ga rs=>?_
    unfold assignStores
    refine wpAny_bind (wpAny_rule ?_)
    rw [sw_len e2 rs]
    exact wpAny_bind (wpAny_unpackItems_tuple R.h ⟨_,ga,rfl,nn,rfl⟩ fun h' hx=>wpAny_bind
      (sn_seq names.reverse w g₀ g ι1 δ1 H1 m ρ _ env L cl A E { s1 with heap:=h' } _ xs.reverse vs.reverse _ (X1.grow (extBut_keep hx)) (C1.grow (extBut_keep hx)) rs.reverse e2 fun s2 ι2 δ2 m2 X2 C2 p2 q2=>
        wpAny_pure (K.eqs e' _ _ _ _ _ X2 C2 (p1.trans p2) .next (q1.trans ⟨q2.1,q2.2⟩))))
end Mine
end
section
open PySem PySem.W PyProof.Rows PySem.Calls
set_option Elab.async false
set_option linter.all false
set_option autoImplicit false
set_option maxRecDepth 10000
namespace Mine
noncomputable def relab (scope cs:Scope):Scope:=
  { scope with names:=scope.names.map fun (n,k)=>if (k == .free && cs.kind == .function && cs.names.lookup n == some .cell) then (n,.cell) else (n,k) }
noncomputable def closeL (cl:List (Str×Addr)):List (Str×NameKind)→List (Str×Addr)→Option (List (Str×Addr))
  | [],acc=>some acc
  | (n,k)::r,acc=>if k == .free then (match cl.lookup n with
      | some a=>closeL cl r ((n,a)::acc)
      | none=>none) else closeL cl r acc
theorem close_go {env:Env}:∀ (names:List (Str×NameKind)) (acc cl':List (Str×Addr)),closeL env.cells names acc=some cl'→
    (forIn (m:=Sem) names acc fun x r=>(match x with | (name,kind)=>if kind == .free then (do let a ← cellOf env name; pure (ForInStep.yield ((name,a)::r))) else pure (ForInStep.yield r)))=pure cl'
  | [],acc,cl',h=>by cases h; rfl
  | (n,k)::r,acc,cl',h=>by
    unfold closeL at h
    rw [List.forIn_cons]
    by_cases hk:(k == NameKind.free)=true
    · rw [if_pos hk] at h
      simp only [hk,if_true]
      cases hc:env.cells.lookup n with
      | none=>rw [hc] at h; cases h
      | some a=>
        rw [hc] at h
        unfold cellOf
        rw [hc]
        exact close_go r _ cl' h
    · rw [if_neg hk] at h
      simp only [hk,if_false]
      exact close_go r acc cl' h
theorem close_eq {env:Env} {scope:Scope} {cl':List (Str×Addr)} (h:closeL env.cells scope.names []=some cl'):closureFor scope env=pure cl':=by
  have:=congrArg (fun (z:Sem (List (Str×Addr)))=>z >>= fun cs=>pure cs) (close_go scope.names [] cl' h)
  exact this
noncomputable def compOk (scope cs:Scope) (x:Str):Bool:=
  scope.kind == .function && scope.names.all (fun y=>!(y.2 == .cell)) && scope.names.all (fun y=>!(y.2 == .local) || scope.names.lookup y.1 == some .local) && scope.names.lookup x == some .local &&
  scope.names.all (fun y=>!(y.2 == .free) || cs.names.lookup y.1 == some .cell)
noncomputable def inner (scope cs:Scope) (ρ:Loc):Loc:=fun y=>if (relab scope cs).names.lookup y == some .cell && cs.names.lookup y == some .cell then ρ y else none
noncomputable def compGo (x:Str) (c:EX) (D:Nat):Nat→Itr→Loc→Hp→Option Hp
  | 0,_,_,_=>none
  | k+1,t,ρ,H=>oN (t.next H) (fun v t'=>if isExt v then none else oB (c (upL ρ x v) H) fun y H1=>atList H1[D]? fun ys=>if ys.length≤999999 then compGo x c D k t' (upL ρ x v) (H1.set D (.list (ys++[y]))) else none) (some H)
noncomputable def eComp (scope cs:Scope) (x:Str) (i:IX) (c:EX):EX:=fun ρ H=>
  if compOk scope cs x && scope.names.all (fun y=>!(y.2 == .free) || (ρ y.1).isSome) then oB (i ρ H) fun t H1=>(compGo x c H1.length fuelN t (inner scope cs ρ) (H1++[.list []])).map fun H2=>(.ref H1.length,H2) else none
theorem imp_of {a b:Bool} (h:(!a || b)=true) (ha:a=true):b=true:=by subst ha; exact h
theorem compOk_i {scope cs:Scope} {x:Str} {G:Prop} (h:compOk scope cs x=true) (K:scope.kind=.function→(∀ y∈scope.names,y.2≠.cell)→(∀ y∈scope.names,y.2=.local→scope.names.lookup y.1=some .local)→scope.names.lookup x=some .local→(∀ y∈scope.names,y.2=.free→cs.names.lookup y.1=some .cell)→G):G:=by
  unfold compOk at h
  simp only [Bool.and_eq_true] at h
  obtain ⟨⟨⟨⟨h1,h2⟩,h3⟩,h4⟩,h5⟩:=h
  exact K (eq_of_beq h1) (fun y hy q=>by have:=List.all_eq_true.mp h2 y hy; rw [q] at this; cases this) (fun y hy q=>eq_of_beq (imp_of (List.all_eq_true.mp h3 y hy) (by rw [q]; rfl))) (eq_of_beq h4) (fun y hy q=>eq_of_beq (imp_of (List.all_eq_true.mp h5 y hy) (by rw [q]; rfl)))
theorem close_ex {cs:Scope} {cl:List (Str×Addr)}:∀ (names:List (Str×NameKind)) (acc:List (Str×Addr)),(∀ y∈names,y.2=.free→∃ a,cl.lookup y.1=some a)→(∀ y a,acc.lookup y=some a→cl.lookup y=some a)→
    ∃ cl',closeL cl names acc=some cl'∧(∀ y a,cl'.lookup y=some a→cl.lookup y=some a)∧(∀ y∈names,y.2=.free→∃ a,cl'.lookup y.1=some a)∧(∀ y a,acc.lookup y=some a→∃ a',cl'.lookup y=some a')
  | [],acc,_,h=>⟨acc,rfl,h,(fun _ h=>nomatch h),fun y a e=>⟨a,e⟩⟩
  | (n,k)::r,acc,h1,h2=>by
    unfold closeL
    by_cases hk:(k == NameKind.free)=true
    · rw [if_pos hk]
      obtain ⟨a,ha⟩:=h1 (n,k) (.head _) (eq_of_beq hk)
      simp only at ha
      rw [ha]
      have h3:∀ y b,List.lookup y ((n,a)::acc)=some b→cl.lookup y=some b:=fun y b e=>by
        rw [List.lookup_cons] at e
        cases q:y == n with
        | true=>rw [q] at e; cases e; rw [eq_of_beq q]; exact ha
        | false=>rw [q] at e; exact h2 y b e
      obtain ⟨cl',e1,e2,e3,e4⟩:=close_ex (cs:=cs) r ((n,a)::acc) (fun y hy=>h1 y (.tail _ hy)) h3
      refine ⟨cl',e1,e2,fun y hy hf=>?_,fun y b e=>?_⟩
      · rcases List.mem_cons.mp hy with rfl | hy
        · exact e4 n a (by rw [List.lookup_cons]; simp)
        · exact e3 y hy hf
      · cases q:y == n with
        | true=>exact e4 y a (by rw [List.lookup_cons,q])
        | false=>exact e4 y b (by rw [List.lookup_cons,q]; exact e)
    · rw [if_neg hk]
      obtain ⟨cl',e1,e2,e3,e4⟩:=close_ex (cs:=cs) r acc (fun y hy=>h1 y (.tail _ hy)) h2
      refine ⟨cl',e1,e2,fun y hy hf=>?_,e4⟩
      rcases List.mem_cons.mp hy with rfl | hy
      · simp only at hf; subst hf; exact absurd rfl hk
      · exact e3 y hy hf
theorem relab_cell {scope cs:Scope} {y:Str} (h:(relab scope cs).names.lookup y=some .cell) (hc:∀ z∈scope.names,z.2≠.cell):∃ z∈scope.names,z.2=.free∧z.1=y:=by
  have:∀ l:List (Str×NameKind),(∀ z∈l,z.2≠.cell)→(l.map fun (n,k)=>if (k == .free && cs.kind == .function && cs.names.lookup n == some .cell) then (n,NameKind.cell) else (n,k)).lookup y=some .cell→∃ z∈l,z.2=.free∧z.1=y:=by
    intro l
    induction l with
    | nil=>intro _ h; cases h
    | cons z l ih=>
      intro hz h
      obtain ⟨n,k⟩:=z
      rw [List.map_cons] at h
      replace h:List.lookup y ((if (k == NameKind.free && cs.kind == .function && cs.names.lookup n == some .cell)=true then (n,NameKind.cell) else (n,k))::(l.map fun (n,k)=>if (k == .free && cs.kind == .function && cs.names.lookup n == some .cell) then (n,NameKind.cell) else (n,k)))=some .cell:=h
      by_cases hk:(k == NameKind.free && cs.kind == .function && cs.names.lookup n == some .cell)=true
      · rw [if_pos hk,List.lookup_cons] at h
        cases q:y == n with
        | true=>
          rw [Bool.and_eq_true,Bool.and_eq_true] at hk
          exact ⟨(n,k),.head _,eq_of_beq hk.1.1,(eq_of_beq q).symm⟩
        | false=>
          rw [q] at h
          obtain ⟨z,h1,h2⟩:=ih (fun z hz'=>hz z (.tail _ hz')) h
          exact ⟨z,.tail _ h1,h2⟩
      · rw [if_neg hk,List.lookup_cons] at h
        cases q:y == n with
        | true=>rw [q] at h; exact absurd (Option.some.inj h) (hz (n,k) (.head _))
        | false=>
          rw [q] at h
          obtain ⟨z,h1,h2⟩:=ih (fun z hz'=>hz z (.tail _ hz')) h
          exact ⟨z,.tail _ h1,h2⟩
  exact this _ hc h
end Mine
end
section
open PySem PySem.W PyProof.Rows PySem.Calls
set_option Elab.async false
set_option linter.all false
set_option autoImplicit false
set_option maxRecDepth 10000
namespace Mine
theorem it_self {w:World} {A:Around} {E:Value→Shared→Prop} {s:Shared} {ι:List Addr} {I:Addr} {t:Itr} {Q:Value→Shared→Prop} (T:ItAt s.heap ι I t) (h:Q (.ref I) s):wpAny (model pg w) A (pyIter (.ref I)) Q E s:=by
  cases t with
  | list k i=>obtain ⟨l,hl,T⟩:=T; exact wpAny_pyIter_listiter T h
  | range x left=>exact wpAny_pyIter_rangeiter T h
noncomputable def RetC (Pm:Params) (g:Heap) (s:Shared) (ι:List Addr) (L:Addr) (H':Hp) (P:Shared→Prop):Prop:=
  ∀ (s':Shared) (ι':List Addr) (δ':List (Option Addr)) (mC:Str→Option Value),Conc Pm g s'.heap ι' δ' H'→ι<+:ι'→Rest s s'→s'.heap.Ns L mC→L ∉ owned ι' δ'→P s'
theorem RetC.trans {Pm:Params} {g:Heap} {s s1:Shared} {ι ι1:List Addr} {L:Addr} {H':Hp} {P:Shared→Prop} (K:RetC Pm g s ι L H' P) (p:ι<+:ι1) (q:Rest s s1):RetC Pm g s1 ι1 L H' P:=fun _ _ _ _ C p' q'=>K _ _ _ _ C (p.trans p') (q.trans q')
theorem comp_turn {cs:Scope} {n k:Nat} {x:Str} {c:EX} {elt:Expr} {px:Pos} (hc:SE cs n c elt) (hx:cs.names.lookup x=some .local) {w:World} {A:Around} {E:Value→Shared→Prop} {g₀ g:Heap} {s:Shared} {ι:List Addr} {δ:List (Option Addr)} {H H':Hp} {L:Addr} {m:Str→Option Value} {env:Env} {cl:List (Str×Addr)} {ρ:Loc} {D:Nat} {acc I:Addr} {t:Itr} {PN:Option Value→Shared→Prop} {P N:Shared→Prop}
    (h0:∀ s,P s→PN none s) (h1:∀ v s,wpAny (model pg w) A (assign (.Name x px) env v) (fun _ s2=>wpAny (model pg w) A (eval elt env) (fun y s3=>wpAny (model pg w) A (call (.builtin "list.append") [.ref acc,y]) (fun _ s4=>N s4) E s3) E s2) E s→PN (some v) s)
    (X:Sx w g₀ g s ι δ env cs cl L m ρ) (R:Room A n) (C:Conc w.params g s.heap ι δ H) (T:ItAt s.heap ι I t) (hI:I ∉ owned ι δ) (gI:g.get? I=none) (hIL:I≠L) (hacc:ι[D]?=some acc) (e:compGo x c D (k+1) t ρ H=some H') (K:RetC w.params g s ι L H' P)
    (KN:∀ s' ι' δ' m1 ρ1 H1 t',Sx w g₀ g s' ι' δ' env cs cl L m1 ρ1→Conc w.params g s'.heap ι' δ' H1→ι<+:ι'→Rest s s'→ItAt s'.heap ι' I t'→I ∉ owned ι' δ'→compGo x c D k t' ρ1 H1=some H'→N s') :
    wpAny (model pg w) A (pyNext (.ref I)) PN E s:=
  oN_i e (fun v t' e2 e=>ifn_i e fun hext e=>oB_i e fun y H3 e3 e=>atList_i e fun ys ho e=>if_i e fun hl e=>p_next1 R.h C hI gI T e2 fun s2 v' C2 T2 r2 q2 kp=>h1 _ _ (by
      have X2:=X.keepBut gI hIL kp
      obtain ⟨oI,hoI⟩:=T2.obj
      have hIb:=frzL_get hoI hIL hI
      exact sa_name (n:=n) x px w g₀ _ ι δ H m ρ (upL ρ x v) env L cl A _ s2 _ v v' H (X2.body C2) R C2.frzL r2 (by unfold tName; rw [if_neg hext,hx]; rfl) fun s3 ι3 δ3 m3 X3 C3 p3 q3=>
        X3.ex C3 hc R e3 fun s4 ι4 δ4 y' X4 C4 p4 r4 q4=>p_append C4.frz (pre_get (p3.trans p4) hacc) r4 ho (Nat.le_succ_of_le hl) fun s5 ι5 δ5 u' C5 p5 r5 q5=>
          KN s5 ι5 δ5 m3 (upL ρ x v) _ t' (X2.unbody C2 (X4.back C4 C5 p5).1 (X4.back C4 C5 p5).2).1 (X2.unbody C2 (X4.back C4 C5 p5).1 (X4.back C4 C5 p5).2).2 (p3.trans (p4.trans p5)) (q2.trans (q3.trans (q4.trans q5)))
            (T2.mono (p3.trans (p4.trans p5)) fun o ho=>by rw [hoI] at ho; cases ho; exact (X4.back C4 C5 p5).2.keep _ _ hIb) ((X4.back C4 C5 p5).2.notOwned hIb) e))
    (fun e2 e=>p_next0 R.h C hI gI T e2 fun s2 C2 q2 kp=>h0 _ (by cases e; exact K s2 ι δ m C2 (List.prefix_refl _) q2 (X.keepBut gI hIL kp).F.ns (X.keepBut gI hIL kp).nL))
theorem comp_loop {cs:Scope} {n:Nat} {x:Str} {c:EX} {elt ie:Expr} {px p:Pos} {scope:Scope} (hc:SE cs n c elt) (hx:cs.names.lookup x=some .local)
    {w:World} {A:Around} {g₀ g:Heap} {s:Shared} {ι:List Addr} {δ:List (Option Addr)} {H H':Hp} {L:Addr} {m:Str→Option Value} {env:Env} {cl:List (Str×Addr)} {ρ:Loc} {D:Nat} {acc I:Addr} {t:Itr} {RR:Result→Shared→Prop}
    (X:Sx w g₀ g s ι δ env cs cl L m ρ) (R:Room A n) (C:Conc w.params g s.heap ι δ H) (T:ItAt s.heap ι I t) (hI:I ∉ owned ι δ) (gI:g.get? I=none) (hIL:I≠L) (hacc:ι[D]?=some acc) (e:compGo x c D fuelN t ρ H=some H')
    (K:RetC w.params g s ι L H' (RR (.ok .next))) :
    codeAny (model pg w) A (.compLoop (.ListComp elt [⟨.Name x px,ie,[],0⟩] scope p) 0 (.ref I) (.ref acc) env) RR s:=
  codeAny_compLoop_list (fun k s1=>∀ G:Prop,(∀ ι1 δ1 m1 ρ1 H1 t1,Sx w g₀ g s1 ι1 δ1 env cs cl L m1 ρ1→Conc w.params g s1.heap ι1 δ1 H1→ItAt s1.heap ι1 I t1→I ∉ owned ι1 δ1→ι1[D]?=some acc→compGo x c D k t1 ρ1 H1=some H'→RetC w.params g s1 ι1 L H' (RR (.ok .next))→G)→G)
    (fun k s1 h=>h _ fun ι1 δ1 m1 ρ1 H1 t1 X1 C1 T1 I1 a1 e1 K1=>by
      cases k with
      | zero=>exact no_some e1
      | succ k=>exact comp_turn hc hx (fun _ h=>h) (fun _ _ h=>h) X1 R C1 T1 I1 gI hIL a1 e1 K1 fun s' ι' δ' m1 ρ1 H1 t' X C p q T n e=>⟨k,Nat.lt_succ_self k,fun G g=>g ι' δ' m1 ρ1 H1 t' X C T n (pre_get p a1) e (K1.trans p q)⟩)
    fuelN (fun G g=>g ι δ m ρ H t X C T hI hacc e K) (fun v=>rfl)
theorem Sx.inner {scope cs:Scope} {w:World} {g₀ g:Heap} {ι:List Addr} {L:Addr} {m:Str→Option Value} {env:Env} {cl:List (Str×Addr)} {ρ:Loc} {s2:Shared} {ι2:List Addr} {δ2:List (Option Addr)} {H2:Hp} {cl':List (Str×Addr)} {env':Env} {m':Str→Option Value} {s3:Shared}
    (X:Cx w g₀ g ι env cs cl L m ρ) (C2:Conc w.params g s2.heap ι2 δ2 H2) (p:ι<+:ι2) (hkind:scope.kind=.function) (hcell:∀ y∈scope.names,y.2≠.cell) (hc2:∀ y a,cl'.lookup y=some a→cl.lookup y=some a) (hc3:∀ y∈scope.names,y.2=.free→∃ a,cl'.lookup y.1=some a)
    (ev:EnvOk env' (relab scope cs) s2.heap.objs.size cl') (hns:s3.heap.Ns s2.heap.objs.size m') (kp:∀ (b:Addr) (o:Obj),s2.heap.get? b=some o→s3.heap.get? b=some o):Sx w g₀ g s3 ι2 δ2 env' (relab scope cs) cl' s2.heap.objs.size m' (Mine.inner scope cs ρ) where
  ev:=ev
  S:=X.S
  F:=⟨hns,fun b o e=>kp b o (C2.keep b o (X.F.keep b o e)),Fr.size_le (X.Fh C2)⟩
  fn:=hkind
  kp:=X.F.keep
  gL:=C2.gNone (fresh_size _)
  nL:=C2.noSize
  ce:=fun y c e=>X.ce y c (hc2 y c e)
  exx:=fun y a l hu=>if_i hu fun _ hu=>X.exx y a l hu
  lr:=fun y u hu=>if_i hu fun hy hu=>by
    rw [Bool.and_eq_true] at hy
    have hy1:=eq_of_beq hy.1
    have hy2:=eq_of_beq hy.2
    refine X.look hu (fun u' r h4 _=>by rw [hy2] at h4; cases h4) fun u' c o r h4 h5 h6 h7=>⟨u',r.mono p,.inr ⟨c,o,.inl hy1,?_,h6,h7⟩⟩
    obtain ⟨z,hz1,hz2,hz3⟩:=relab_cell hy1 hcell
    obtain ⟨a,ha⟩:=hc3 z hz1 hz2
    rw [hz3] at ha
    have:=hc2 _ _ ha
    rw [h5] at this
    cases this
    exact ha
theorem comp_core {cs scope:Scope} {n:Nat} {x:Str} {i:IX} {c:EX} {elt ie:Expr} (px p cp:Pos) (hs:noSet ie=true) (hi:SI cs n i ie) (hc:SE (relab scope cs) n c elt) {use:Option (Value→Sem Unit)} :
    ∀ (w:World) (g₀ g:Heap) (ι:List Addr) (δ:List (Option Addr)) (H:Hp) (m:Str→Option Value) (ρ:Loc) (env:Env) (L:Addr) (cl:List (Str×Addr)) (A:Around) (E:Value→Shared→Prop) (s:Shared) (Q:Value→Shared→Prop) (v:AV) (H':Hp),
    Cx w g₀ g ι env cs cl L m ρ→Room A n→Conc w.params g s.heap ι δ H→eComp scope cs x i c ρ H=some (v,H')→
    (∀ (s':Shared) (ι':List Addr) (δ':List (Option Addr)) (acc:Value) (C:Addr) (mC:Str→Option Value),Conc w.params g s'.heap ι' δ' H'→ι<+:ι'→VR ι' acc v→Rest s s'→s'.heap.Ns C mC→C ∉ owned ι' δ'→g.get? C=none→
      compPost (model pg w) A E use Q acc C (.ok .next) s')→
    wpAny (model pg w) A (comprehension (.ListComp elt [⟨.Name x px,ie,[],0⟩] scope p) scope env cp (newList []) false (eval ie env) use) Q E s:=
  fun w g₀ g ι δ H m ρ env L cl A E s Q v H' X R C e K=>if_i e fun hok e=>oB_i e fun t H1 e1 e=>map_i e fun H2 e2 e3=>by
    rw [Bool.and_eq_true] at hok
    refine compOk_i hok.1 fun hkind hcell hnames hx hfk=>?_
    have hcl:∀ y∈scope.names,y.2=.free→∃ a,cl.lookup y.1=some a:=fun y hy q=>by
      obtain ⟨v,h2⟩:=Option.isSome_iff_exists.mp (imp_of (List.all_eq_true.mp hok.2 y hy) (by rw [q]; rfl))
      exact X.look h2 (fun _ _ h3 _=>by rw [hfk y hy q] at h3; cases h3) fun _ c _ _ _ h4 _ _=>⟨c,h4⟩
    obtain ⟨cl',hc1,hc2,hc3,_⟩:=close_ex (cs:=cs) scope.names [] hcl (fun y a e=>by cases e)
    refine wpAny_comprehension_free (cl:=cl') rfl (fold_pure hs) (close_eq (by rw [X.ev.ce]; exact hc1)) hkind hnames (hi w g₀ g ι δ H m ρ env L cl A E s _ t H1 X R C e1 fun s1 ι1 δ1 I C1 p1 T1 I1 gI q1=>?_)
    obtain ⟨oI,hoI⟩:=T1.obj
    have gI1:(frz s1.heap ι1 δ1).get? I=some oI:=frz_get hoI I1
    refine p_newList (C1.frz) (VRs.nil) (Nat.zero_le _) fun s2 ι2 δ2 acc C2 p2 r2 q2=>vR r2 fun ac hacc=>?_
    have C2':=C2.weaken C1.frz_keep
    have kI:=C2.keep _ _ gI1
    refine wpAny_newFunctionEnv hcell (fun y hy=>nomatch hy) (fun h3 hns hsb=>?_) hkind
    have kp:∀ (b:Addr) (o:Obj),s2.heap.get? b=some o→h3.get? b=some o:=fun b o e=>by
      rw [hsb.2 b (Nat.ne_of_lt (Heap.lt_size e))]
      exact Heap.get?_push_of_some _ e
    have T2:ItAt h3 ι2 I t:=T1.mono p2 (fun o ho=>by rw [hoI] at ho; cases ho; exact kp _ _ kI)
    have loop:=comp_loop (s:=⟨h3,s2.gens,s2.drawn,s2.toks+0,s2.os⟩) (RR:=compPost (model pg w) A E use Q (.ref ac) s2.heap.objs.size) (px:=px) (p:=p) (ie:=ie) (scope:=scope) hc (lookup_relabel_local (env:={ env with scope:=cs }) hx)
      (Sx.inner X C2' (p1.trans p2) hkind hcell hc2 hc3 (env':={ newEnv scope s2.heap.objs.size env.globals cl' env.qual none .none (some env) builtinsNs with scope:=relabel scope env }) ⟨by show relabel scope env=_; unfold relabel relab Env.kindOf; rw [X.ev.sc],rfl,rfl,X.ev.gl,X.ev.bu⟩ hns kp) R (C2'.grow kp) T2 (C2.notOwned gI1) gI (Nat.ne_of_lt (Heap.lt_size kI)) hacc e2
      fun s4 ι4 δ4 mC C4 p4 q4 ns n4=>by
        cases e3
        exact K s4 ι4 δ4 _ _ mC C4 (p1.trans (p2.trans p4)) (.ref (pre_get p4 hacc)) (q1.trans (q2.trans ⟨q4.1,q4.2⟩)) ns n4 (C2'.gNone (fresh_size _))
    exact codeAny_compStart_list loop (it_self (ι:=ι2) (t:=t) T2 loop)
theorem se_comp {cs scope:Scope} {n:Nat} {x:Str} {i:IX} {c:EX} {elt ie:Expr} (px p:Pos) (hs:noSet ie=true) (hi:SI cs n i ie) (hc:SE (relab scope cs) n c elt):SE cs n (eComp scope cs x i c) (.ListComp elt [⟨.Name x px,ie,[],0⟩] scope p):=by
  intro w g₀ g ι δ H m ρ env L cl A E s Q v H' X R C e K
  rw [eval_ListComp]
  exact comp_core px p _ hs hi hc (use:=none) w g₀ g ι δ H m ρ env L cl A E s Q v H' X R C e fun s' ι' δ' acc Cc mC C' p' r' q' ns nC gC=>
    ⟨mC,ns,fun h' sb=>K _ ι' δ' acc (C'.but nC gC fun b o hb e=>(sb.2 b hb).trans e) p' r' ⟨q'.1,q'.2⟩⟩
noncomputable def sAssignComp (cs:Scope) (x:Str) (c:EX):SX:=fun ρ H=>oB (c ρ H) fun v H1=>oB (tName cs x v ρ H1) fun ρ1 H2=>some (.next,ρ1,H2)
noncomputable def swYes (cs scope:Scope) (x:Str) (same:Bool):Bool:=cs.names.lookup x == some .local && same && !(scope.names.any fun (n,k)=>n == x && (k == .local || k == .cell))
theorem swYes_eq {cs scope:Scope} {y:Str} {px py p:Pos} {x:Str} {elt ie:Expr} {k:Nat} {env:Env} (hk:cs.kind=.function) (he:env.scope=cs) (hsw:swYes cs scope y (py.line == p.line)=true):swapsWithSole [.Name y py] (.ListComp elt [⟨.Name x px,ie,[],0⟩] scope p) k env=pure true:=by
  unfold swYes at hsw
  rw [Bool.and_eq_true,Bool.and_eq_true] at hsw
  have hb:env.blockKind=.function:=by unfold Env.blockKind; rw [he,hk]; rfl
  show (pure (env.blockKind == .function && env.kindOf y == some .local && py.line == p.line && !(scope.names.any fun (n,k)=>n == y && (k == .local || k == .cell))):Sem Bool)=pure true
  have hq:env.kindOf y=cs.names.lookup y:=by unfold Env.kindOf; rw [he]
  rw [hb,hq,hsw.1.1,hsw.1.2,hsw.2]
  rfl
theorem ss_assignComp {cs scope:Scope} {n:Nat} {x y:Str} {i:IX} {c:EX} {elt ie:Expr} (px py p p':Pos) (hk:cs.kind=.function) (hs:noSet ie=true) (hsw:swYes cs scope y (py.line == p.line)=true) (hi:SI cs n i ie) (hc:SE (relab scope cs) n c elt) :
    SS cs n (sAssignComp cs y (eComp scope cs x i c)) (.Assign [.Name y py] (.ListComp elt [⟨.Name x px,ie,[],0⟩] scope p) p'):=
  fun w g₀ g ι δ H m ρ ρ' env L cl A E s Q f H' X R C e K=>oB_i e fun v H1 e1 e=>oB_i e fun ρ1 H2 e2 e=>by
    rw [exec_Assign_arm]
    refine wpAny_bind (wpAny_standAt (wpAny_bind (wpAny_of_eq (swYes_eq hk X.ev.sc hsw) (wp_t rfl (wpAny_bind ?_)))))
    unfold evalThenUse
    refine wpAny_bind (comp_core px p _ hs hi hc (use:=some _) w g₀ _ ι δ H m ρ env L cl A E s _ v H1 (X.cx C) R C.frz e1 fun s' ι' δ' acc Cc mC C' pp r' q' ns nC gC=>?_)
    obtain ⟨X1,C1⟩:=X.back C C' pp
    have hCL:=X.apart gC
    have gC':=C.gFrz gC
    obtain ⟨oC,c1,c2,hC,c3⟩:=ns
    have hCb:=frzL_get hC hCL nC
    show wpAny (model pg w) A (assign (.Name y py) env acc) _ E s'
    refine sa_name (n:=n) y py w g₀ _ ι' δ' H1 m ρ _ env L cl A E s' _ v acc _ (X1.body C1) R C1.frzL r' e2 fun s2 ι2 δ2 m2 X2 C2 p2 q2=>?_
    obtain ⟨X3,C3⟩:=X1.unbody C1 X2 C2
    refine ⟨mC,⟨oC,c1,c2,C2.keep _ _ hCb,c3⟩,fun h' sb=>wpAny_pure (wpAny_pure ?_)⟩
    have kp:∀ (b:Addr) (o:Obj),b≠Cc→s2.heap.get? b=some o→h'.get? b=some o:=fun b o hb e=>(sb.2 b hb).trans e
    exact K.eqs e _ ι2 δ2 m2 _ (X3.keepBut gC' hCL kp) (C3.but (C2.notOwned hCb) gC' kp) (pp.trans p2) .next (q'.trans ⟨q2.1,q2.2⟩)
end Mine
end
section
open PySem PySem.W PyProof.Rows PySem.Calls
set_option Elab.async false
set_option linter.all false
set_option autoImplicit false
set_option maxRecDepth 10000
namespace Mine
noncomputable def namesOf (p:Arguments):List Str:=p.args.map (·.arg)
noncomputable def simpleP (p:Arguments):Bool:=p.posonlyargs.isEmpty && p.kwonlyargs.isEmpty && p.vararg.isNone && p.kwarg.isNone
theorem zip_lookup_none {x:Str}:∀ {ns:List Str} {vs:List Value},x ∉ ns→(ns.zip vs).lookup x=none
  | [],_,_=>rfl
  | a::r,[],_=>rfl
  | a::r,v::ws,h=>by
    simp only [List.mem_cons,not_or] at h
    rw [List.zip_cons_cons,List.lookup_cons]
    have:(x == a)=false:=by simpa using h.1
    rw [this]
    exact zip_lookup_none h.2
theorem zip_lookup_some {x:Str}:∀ {ns:List Str} {vs:List Value},ns.length≤vs.length→x∈ns→((ns.zip vs).lookup x).isSome=true
  | a::r,[],h,_=>by simp at h
  | a::r,v::ws,h,hm=>by
    rw [List.zip_cons_cons,List.lookup_cons]
    cases q:x == a with
    | true=>rfl
    | false=>
      rcases List.mem_cons.mp hm with rfl | hm
      · simp at q
      · exact zip_lookup_some (by simpa using h) hm
theorem fm_congr {α β:Type} {f g:α→Option β}:∀ {l:List α},(∀ x∈l,f x=g x)→l.filterMap f=l.filterMap g
  | [],_=>rfl
  | a::r,h=>by rw [List.filterMap_cons,List.filterMap_cons,h a (.head _),fm_congr fun x hx=>h x (.tail _ hx)]
theorem zip_filterMap:∀ {ns:List Str} {vs:List Value},ns.Nodup→ns.length=vs.length→ns.filterMap (fun n=>((ns.zip vs).lookup n).map (n,·))=ns.zip vs:=by
  intro ns
  induction ns with
  | nil=>exact fun _ _=>rfl
  | cons a r ih=>
    intro vs hn hl
    cases vs with
    | nil=>cases hl
    | cons v ws=>
      rw [List.nodup_cons] at hn
      have e1:List.lookup a ((a,v)::r.zip ws)=some v:=by rw [List.lookup_cons,beq_self_eq_true]
      rw [List.zip_cons_cons,List.filterMap_cons,e1]
      exact congrArg ((a,v)::·) ((fm_congr fun n hm=>by rw [List.lookup_cons,show (n == a)=false from Bool.eq_false_iff.mpr fun q=>hn.1 (eq_of_beq q ▸ hm)]).trans (ih hn.2 (Nat.succ.inj hl)))
theorem ite_f {α:Type} {c:Prop} [Decidable c] {a b r:α} (h:¬ c) (e:b=r):(if c then a else b)=r:=(if_neg h).trans e
theorem bnd {α β:Type} {m:Sem α} {x:α} {f:α→Sem β} {r:Sem β} (h:m=pure x) (e:f x=r):m >>= f=r:=by rw [h]; exact (pure_bind x f).trans e
theorem loop_add {f:Str×Value→List (Str×Value)→Sem (ForInStep (List (Str×Value)))} (hf:∀ n d s,s.lookup n=none→f (n,d) s=pure (.yield (s++[(n,d)]))):∀ {ms:List Str} {ds:List Value} {s:List (Str×Value)},ms.Nodup→(∀ n∈ms,s.lookup n=none)→forIn (ms.zip ds) s f=pure (s++ms.zip ds)
  | [],ds,s,_,_=>(List.append_nil s).symm ▸ rfl
  | n::ms,[],s,_,_=>(List.append_nil s).symm ▸ rfl
  | n::ms,d::ds,s,hn,hs=>by
    rw [List.zip_cons_cons,List.forIn_cons,hf n d s (hs n (.head _)),pure_bind]
    have:=loop_add hf (ms:=ms) (ds:=ds) (s:=s++[(n,d)]) (List.nodup_cons.mp hn).2 (fun m hm=>by
      rw [List.lookup_append,hs m (.tail _ hm),Option.none_or,List.lookup_cons,show (m == n)=false from Bool.eq_false_iff.mpr fun q=>(List.nodup_cons.mp hn).1 (eq_of_beq q ▸ hm)]
      rfl)
    rw [List.append_assoc] at this
    exact this
section
variable {ns:List Str} {vs ds:List Value}
theorem cut_two (hl:vs.length+ds.length=ns.length):∃ a b:List Str,ns=a++b∧a.length=vs.length∧b.length=ds.length:=
  ⟨ns.take vs.length,ns.drop vs.length,(List.take_append_drop _ _).symm,List.length_take_of_le (hl ▸ Nat.le_add_right _ _),by rw [List.length_drop,← hl,Nat.add_sub_cancel_left]⟩
theorem dd_eq (hl:vs.length+ds.length=ns.length):ds.drop (ds.length - ns.length)=ds:=by rw [Nat.sub_eq_zero_of_le (hl ▸ Nat.le_add_left _ _)]; rfl
theorem zip_left {a b:List Str} (h:a.length=vs.length):(a++b).zip vs=a.zip vs:=by
  have:=List.zip_append (r₁:=b) (r₂:=([]:List Value)) h
  rwa [List.append_nil,List.zip_nil_right,List.append_nil] at this
theorem dn_eq (hl:vs.length+ds.length=ns.length):ns.length - (ds.drop (ds.length - ns.length)).length=vs.length:=by rw [dd_eq hl,← hl,Nat.add_sub_cancel]
theorem c_many {q:Bool} (hl:vs.length+ds.length=ns.length):¬ (decide (vs.length > ns.length) && q)=true:=by
  rw [decide_eq_false (Nat.not_lt.mpr (hl ▸ Nat.le_add_right _ _))]; exact Bool.false_ne_true
theorem c_miss (hl:vs.length+ds.length=ns.length):¬ (!((ns.take (ns.length - (ds.drop (ds.length - ns.length)).length)).filter fun n=>((ns.zip vs).lookup n).isNone).isEmpty)=true:=by
  rw [dn_eq hl]
  obtain ⟨a,b,rfl,h1,h2⟩:=cut_two hl
  rw [zip_left h1,List.take_left' h1,List.filter_eq_nil_iff.mpr fun x hx q=>?_]
  · exact Bool.false_ne_true
  rw [Option.isNone_iff_eq_none] at q
  have:=zip_lookup_some (Nat.le_of_eq h1) hx
  rw [q] at this
  cases this
theorem c_free (hn:ns.Nodup) (hl:vs.length+ds.length=ns.length):∀ n∈ns.drop (ns.length - (ds.drop (ds.length - ns.length)).length),(ns.zip vs).lookup n=none:=by
  rw [dn_eq hl]
  obtain ⟨a,b,rfl,h1,h2⟩:=cut_two hl
  rw [zip_left h1,List.drop_left' h1]
  exact fun n hb=>zip_lookup_none fun ha=>(List.nodup_append.mp hn).2.2 n ha n hb rfl
theorem c_fin (hn:ns.Nodup) (hl:vs.length+ds.length=ns.length):ns.filterMap (fun n=>((ns.zip vs++(ns.drop (ns.length - (ds.drop (ds.length - ns.length)).length)).zip (ds.drop (ds.length - ns.length))).lookup n).map (n,·))=ns.zip (vs++ds):=by
  rw [dn_eq hl,dd_eq hl]
  have e:ns.zip vs++(ns.drop vs.length).zip ds=ns.zip (vs++ds):=by
    obtain ⟨a,b,rfl,h1,h2⟩:=cut_two hl
    rw [zip_left h1,List.drop_left' h1,List.zip_append h1]
  rw [e]
  exact zip_filterMap hn (by rw [List.length_append,hl])
end
theorem bind_k {fd:FuncData} {vs:List Value} (hp:simpleP fd.params=true) (hn:(namesOf fd.params).Nodup):∃ k:Option (Array Value)→Sem (List (Str×Value)),bindArgs fd ⟨vs,[]⟩=seqItems? fd.defaults >>= k∧
    ∀ dv:Option (Array Value),vs.length+(dv.getD #[]).toList.length=(namesOf fd.params).length→k dv=pure ((namesOf fd.params).zip (vs++(dv.getD #[]).toList)):=by
  obtain ⟨nm,qn,⟨po,ar,va,ko,kdf,kw,dfs⟩,body,sc,gl,cl,df,kd,doc,pm,an,bu,cd,rest⟩:=fd
  unfold simpleP at hp
  simp only [Bool.and_eq_true,List.isEmpty_iff,Option.isNone_iff_eq_none] at hp
  obtain ⟨⟨⟨rfl,rfl⟩,rfl⟩,rfl⟩:=hp
  refine ⟨_,rfl,fun dv hl=>ite_f (c_many hl) (ite_f (c_miss hl) (bnd (loop_add (fun n d s h=>?_) (hn.sublist (List.drop_sublist _ _)) (c_free hn hl)) (bnd rfl (ite_f Bool.false_ne_true (congrArg pure ?_)))))⟩
  · exact if_pos (by rw [h]; rfl)
  · show List.filterMap _ (namesOf _++[])=_
    rw [List.append_nil]
    exact c_fin hn hl
end Mine
end
section
open PySem PySem.W PyProof.Rows PySem.Calls
set_option Elab.async false
set_option linter.all false
set_option autoImplicit false
set_option maxRecDepth 10000
namespace Mine
noncomputable def oExt {γ:Type} (o:Option AV) (f:Nat→List Int→γ) (g:γ):γ:=match o with
  | none=>g
  | some v=>match v with
    | .ext a l=>f a l
    | _=>g
theorem oExt_i {γ:Type} {o:Option AV} {f:Nat→List Int→Option γ} {g:Option γ} {r:γ} {G:Prop} (e:oExt o f g=some r) (K:∀ a l,o=some (.ext a l)→f a l=some r→G) (K':g=some r→G):G:=by
  cases o with
  | none=>exact K' e
  | some v=>cases v <;> first | exact K' e | exact K _ _ rfl e
noncomputable def eSliceX (cs:Scope) (x:Str) (lo hi:Option EX):EX:=fun ρ H=>oExt (ρ x)
  (fun _ l=>if cs.names.lookup x == some .local then (if x == ("__debug__" : Str) || x == ("__classdict__" : Str) then none else oB (ePart lo ρ H) fun p H2=>oB (ePart hi ρ H2) fun u H3=>(part p).bind fun lo'=>(part u).bind fun hi'=>
    if l.length≤1000000 then some (.ref H3.length,H3++[.list (pick (l.map .int) lo' hi')]) else none) else none)
  (eSlice (eName cs x) lo hi ρ H)
theorem VRs.up {ι:List Addr} {vs:List Value} {xs:List AV} (r:VRs [] vs xs):VRs ι vs xs:=r.mono (List.nil_prefix)
theorem se_sliceX {cs:Scope} {n:Nat} {lo hi:Option EX} {lo' hi':Option Expr} (x:Str) {px:Pos} (p p':Pos) (hl:SEo cs n lo lo') (hh:SEo cs n hi hi'):SE cs n (eSliceX cs x lo hi) (.Subscript (.Name x px) (.Slice lo' hi' none p') p):=
  fun w g₀ g ι δ H m ρ env L cl A E s Q v H' X R C e K=>oExt_i e (fun a l hx e=>if_i e fun hk e=>ifn_i e fun hd e=>oB_i e fun y H2 e2 e=>oB_i e fun z H3 e3 e=>bind_i e fun lo1 q1 e=>bind_i e fun hi1 q2 e=>if_i e fun hlen e=>by
      obtain ⟨vs,nn,hg,rv⟩:=X.exx x a l hx
      have en:eName cs x ρ H=some (.ext a l,H):=by
        unfold eName
        rw [if_neg hd,eq_of_beq hk,hx]
        rfl
      refine Subscript_ (se_name x px w g₀ g ι δ H m ρ env L cl A E s _ _ _ X R C en fun s1 ι1 δ1 v1 C1 p1 r1 qq1=>?_)
      cases r1
      exact wpAny_Slice (sp_part hl w g₀ g ι1 δ1 H m ρ env L cl A E s1 _ _ _ (X.mono p1) R C1 e2 fun s2 ι2 δ2 v2 C2 p2 r2 qq2=>
        sp_part hh w g₀ g ι2 δ2 H2 m ρ env L cl A E s2 _ _ _ (X.mono (p1.trans p2)) R C2 e3 fun s3 ι3 δ3 v3 C3 p3 r3 qq3=>
          wpAny_pure (p_pick (C3.grow slS_keep) (slS_keep _ _ (C3.keep _ _ (X.F.keep _ _ hg))) rv.up (by rw [List.length_map]; exact hlen) (r2.mono p3) r3 q1 q2 ((((K.eqs e).trans p1 qq1).trans p2 qq2).trans p3 qq3))))
    (fun e=>se_slice p p' (se_name x px) hl hh w g₀ g ι δ H m ρ env L cl A E s Q v H' X R C e K)
noncomputable def noE:EX:=fun _ _=>none
noncomputable def noI:IX:=fun _ _=>none
noncomputable def noT:TX:=fun _ _ _=>none
noncomputable def noS:SX:=fun _ _=>none
noncomputable abbrev sel {α β:Type} (o:Option α) (f:α→β) (d:β):β:=match o with
  | some x=>f x
  | none=>d
noncomputable def nameOf (e:Expr):Option Str:=match e with
  | .Name x _=>some x
  | _=>none
theorem nameOf_i {e:Expr} {x:Str} {G:Prop} (h:nameOf e=some x) (K:∀ p,e=.Name x p→G):G:=by
  cases e <;> first | exact no_some h | exact K _ (congrArg (fun x=>Expr.Name x _) (Option.some.inj h))
noncomputable def rgOf (e:Expr):Option (List Expr):=match e with
  | .Call fn es kws _=>if kws.isEmpty && nameOf fn == some ("range" : Str) then some es else none
  | _=>none
theorem rgOf_i {e:Expr} {es:List Expr} {G:Prop} (h:rgOf e=some es) (K:∀ px p,e=.Call (.Name "range" px) es [] p→G):G:=by
  cases e <;> first | exact no_some h | skip
  refine if_i h fun h1 h=>nameOf_i (eq_of_beq (Bool.and_eq_true_iff.mp h1).2) fun px q=>?_
  rw [q,List.isEmpty_iff.mp (Bool.and_eq_true_iff.mp h1).1,Option.some.inj h] at K
  exact K _ _ rfl
noncomputable def iterOf (f:Expr→EX) (cs:Scope) (e:Expr):IX:=match rgOf e with
  | some es=>if isGlob cs "range" && es.all noStar && !es.isEmpty then iRange (es.map f) else noI
  | none=>iList (f e)
noncomputable def nameCall (cf:CallF) (cs:Scope) (x:Str) (es:List Expr) (l:List EX):EX:=
  if isGlob cs x && es.all noStar then sel (ftab.lookup x) (fun f=>eFun cf f l) (sel (ctab.lookup x) (fun cfi=>eNew cf cfi.1 cfi.2 l) (sel (btab.lookup x) (fun _=>if es.isEmpty then noE else eBlt x l) noE)) else noE
noncomputable def methC (cf:CallF) (o:Expr) (m:Str) (apos pos:Pos) (es:List Expr) (c:EX) (l:List EX):EX:=
  if baseOk o && apos.endLine == pos.line && decide (es.length<30) && (!([("append" : Str), "pop", "count"].contains m) || !es.isEmpty) && es.all noStar then eMeth cf c m l else noE
noncomputable abbrev evUn (op:UnaryOp) (c:EX):EX:=match op with
  | .Not=>eNot c
  | .USub=>eNeg c
  | _=>noE
noncomputable abbrev evBool (op:BoolOp) (l:List EX):EX:=match op with
  | .And=>eAll l
  | .Or=>eAny l
noncomputable abbrev evCmp1 (op:CmpOp) (r:Expr) (c d:EX):EX:=if noSet r then eCmp op c d else noE
noncomputable abbrev evCmp2 (op op':CmpOp) (r':Expr) (c d d':EX):EX:=if noSet r' then eCmp2 op op' c d d' else noE
noncomputable abbrev evCmpL2 (op:CmpOp) (f:Expr→EX) (c:EX) (r:Expr) (ops:List CmpOp) (rs:List Expr):EX:=match ops with
  | []=>(match rs with
    | []=>evCmp1 op r c (f r)
    | _::_=>noE)
  | op'::ops=>(match ops with
    | []=>(match rs with
      | []=>noE
      | r'::rs=>(match rs with
        | []=>evCmp2 op op' r' c (f r) (f r')
        | _::_=>noE))
    | _::_=>noE)
noncomputable abbrev evCmp (f:Expr→EX) (c:EX) (ops:List CmpOp) (rs:List Expr):EX:=match ops with
  | []=>noE
  | op::ops=>(match rs with
    | []=>noE
    | r::rs=>evCmpL2 op f c r ops rs)
noncomputable abbrev evSl (cs:Scope) (v:Expr) (lo hi:Option EX) (c:EX):EX:=sel (nameOf v) (fun x=>eSliceX cs x lo hi) (eSlice c lo hi)
noncomputable def slOf (e:Expr):Option (Option Expr×Option Expr):=match e with
  | .Slice lo hi st _=>if st.isNone then some (lo,hi) else none
  | _=>none
theorem slOf_i {e:Expr} {q:Option Expr×Option Expr} {G:Prop} (h:slOf e=some q) (K:∀ p,e=.Slice q.1 q.2 none p→G):G:=by
  cases e <;> first | exact no_some h | exact if_i h fun h1 h=>K _ (by rw [← Option.some.inj h,Option.isNone_iff_eq_none.mp h1])
noncomputable abbrev evSub (cs:Scope) (f:Expr→EX) (v sl:Expr):EX:=if notSlice sl then eIdx (f v) (f sl) else sel (slOf sl) (fun q=>evSl cs v (q.1.map f) (q.2.map f) (f v)) noE
noncomputable abbrev evDict (ks:List (Option Expr)) (vs:List Expr):EX:=match ks with
  | []=>(match vs with
    | []=>eDict0
    | _::_=>noE)
  | _::_=>noE
noncomputable def attrOf (e:Expr):Option (Expr×Str×Pos):=match e with
  | .Attribute o m p=>some (o,m,p)
  | _=>none
theorem attrOf_i {e:Expr} {q:Expr×Str×Pos} {G:Prop} (h:attrOf e=some q) (K:e=.Attribute q.1 q.2.1 q.2.2→G):G:=by
  cases e <;> first | exact no_some h | exact K (by rw [← Option.some.inj h])
noncomputable abbrev evCall (cf:CallF) (cs:Scope) (f:Expr→EX) (fn:Expr) (es:List Expr) (kws:List Keyword) (pos:Pos):EX:=match kws with
  | []=>sel (nameOf fn) (fun x=>nameCall cf cs x es (es.map f)) (sel (attrOf fn) (fun q=>methC cf q.1 q.2.1 q.2.2 pos es (f q.1) (es.map f)) noE)
  | _::_=>noE
noncomputable abbrev evGen (cs:Scope) (f:Scope→Expr→EX) (elt tgt ie:Expr) (ifs:List Expr) (asy:Int) (scope:Scope):EX:=sel (nameOf tgt) (fun x=>if ifs.isEmpty∧asy=0∧noSet ie=true then eComp scope cs x (iterOf (f cs) cs ie) (f (relab scope cs) elt) else noE) noE
noncomputable abbrev evComp (cs:Scope) (f:Scope→Expr→EX) (elt:Expr) (gens:List Comprehension) (scope:Scope):EX:=match gens with
  | []=>noE
  | g::gs=>(match gs with
    | []=>evGen cs f elt g.target g.iter g.ifs g.is_async scope
    | _::_=>noE)
noncomputable def ev (cf:CallF):Nat→Scope→Expr→EX
  | 0,_,_=>noE
  | n+1,cs,e=>match e with
    | .Constant c _ _=>eConst c
    | .Name x _=>eName cs x
    | .Attribute o x _=>if baseOk o then eAttr (ev cf n cs o) x else noE
    | .BinOp l op r _=>eBin op (ev cf n cs l) (ev cf n cs r)
    | .UnaryOp op x _=>evUn op (ev cf n cs x)
    | .BoolOp op es _=>evBool op (es.map (ev cf n cs))
    | .Compare l ops rs _=>evCmp (ev cf n cs) (ev cf n cs l) ops rs
    | .IfExp t b o _=>eIf (ev cf n cs t) (ev cf n cs b) (ev cf n cs o)
    | .Subscript v sl _=>evSub cs (ev cf n cs) v sl
    | .List es _=>if es.all noStar then eList (es.map (ev cf n cs)) else noE
    | .Tuple es _ _=>if es.all noStar then eTup (es.map (ev cf n cs)) else noE
    | .Dict ks vs _=>evDict ks vs
    | .Call fn es kws pos=>evCall cf cs (ev cf n cs) fn es kws pos
    | .ListComp elt gens scope _=>evComp cs (ev cf n) elt gens scope
    | _=>noE
theorem se_no {cs:Scope} {n:Nat} {e:Expr}:SE cs n noE e:=fun w g₀ g ι δ H m ρ env L cl A E s Q v H' X R C e K=>no_some e
theorem st_no {cs:Scope} {n:Nat} {e:Expr}:ST cs n noE e:=fun w g₀ g ι δ H m ρ env L cl A E s Q v H' X R C e K=>no_some e
noncomputable def SV (cs:Scope) (n:Nat) (c:EX) (e:Expr):Prop:=SE cs n c e∧ST cs n c e
theorem sv_no {cs:Scope} {n:Nat} {e:Expr}:SV cs n noE e:=⟨se_no,st_no⟩
theorem ses_map {cs:Scope} {n:Nat} {f:Expr→EX} (h:∀ e,SV cs n (f e) e):∀ es:List Expr,SEs cs n (es.map f) es
  | []=>.nil
  | e::es=>.cons (h e).1 (h e).2 (ses_map h es)
theorem seo_map {cs:Scope} {n:Nat} {f:Expr→EX} (h:∀ e,SV cs n (f e) e):∀ o:Option Expr,SEo cs n (o.map f) o
  | none=>.none
  | some e=>.some (h e).1
theorem se_if2 {cs:Scope} {n:Nat} {q:Prop} [Decidable q] {c d:EX} {e:Expr} (h:q→SE cs n c e) (h':¬q→SE cs n d e):SE cs n (if q then c else d) e:=by
  by_cases hq:q
  · rw [if_pos hq]; exact h hq
  · rw [if_neg hq]; exact h' hq
theorem se_opt {cs:Scope} {n:Nat} {α:Type} {o:Option α} {f:α→EX} {d:EX} {e:Expr} (h:∀ x,o=some x→SE cs n (f x) e) (h':o=none→SE cs n d e):SE cs n (sel o f d) e:=by
  cases o with
  | some x=>exact h x rfl
  | none=>exact h' rfl
theorem sv_if {cs:Scope} {n:Nat} {q:Prop} [Decidable q] {c:EX} {e:Expr} (h:q→SV cs n c e):SV cs n (if q then c else noE) e:=by
  by_cases hq:q
  · rw [if_pos hq]; exact h hq
  · rw [if_neg hq]; exact sv_no
theorem si_iterOf {cs:Scope} {n:Nat} {f:Expr→EX} (h:∀ e,SV cs n (f e) e) (e:Expr):SI cs n (iterOf f cs e) e:=by
  unfold iterOf
  cases he:rgOf e with
  | none=>exact si_list (h _).1
  | some es=>
    refine rgOf_i he fun px p q=>?_
    subst q
    show SI cs n (if isGlob cs "range" && es.all noStar && !es.isEmpty then iRange (es.map f) else noI) _
    by_cases hq:(isGlob cs "range" && es.all noStar && !es.isEmpty)=true
    · rw [if_pos hq]
      rw [Bool.and_eq_true,Bool.and_eq_true,Bool.not_eq_true',List.isEmpty_eq_false_iff] at hq
      exact si_range px p hq.1.1 (ses_map h es) hq.1.2 hq.2
    · rw [if_neg hq]
      exact fun w g₀ g ι δ H m ρ env L cl A E s Q v H' X R C e K=>no_some e
theorem se_nameCall {cs:Scope} {n:Nat} {cf:CallF} (hcf:SC n cf) (x:Str) (px p:Pos) (es:List Expr) {l:List EX} (h:SEs cs (n+1) l es):SE cs (n+1) (nameCall cf cs x es l) (.Call (.Name x px) es [] p):=
  se_if2 (fun hq=>by
    rw [Bool.and_eq_true] at hq
    exact se_opt (fun f hf=>se_fun hcf px p hq.1 hf h hq.2) fun _=>se_opt (fun cfi hc=>se_new hcf px p hq.1 hc h hq.2) fun _=>se_opt (fun f hb=>se_if2 (fun _=>se_no) fun hne=>se_blt px p hq.1 hb h hq.2 (fun z=>hne (List.isEmpty_iff.mpr z))) fun _=>se_no)
    fun _=>se_no
theorem se_methC {cs:Scope} {n:Nat} {cf:CallF} (hcf:SC n cf) (o:Expr) (m:Str) (apos pos:Pos) (es:List Expr) {c:EX} {l:List EX} (hc:SE cs (n+1) c o) (h:SEs cs (n+1) l es) :
    SE cs (n+1) (methC cf o m apos pos es c l) (.Call (.Attribute o m apos) es [] pos):=
  se_if2 (fun hq=>by
    rw [Bool.and_eq_true,Bool.and_eq_true,Bool.and_eq_true,Bool.and_eq_true] at hq
    obtain ⟨⟨⟨⟨h1,h2⟩,h3⟩,h4⟩,h5⟩:=hq
    refine se_meth hcf apos pos h1 (eq_of_beq h2) (of_decide_eq_true h3) (fun hm=>?_) hc h h5
    have:=imp_of h4 (List.contains_iff_mem.mpr hm)
    rw [Bool.not_eq_true'] at this
    exact List.isEmpty_eq_false_iff.mp this) fun _=>se_no
theorem sv_cmp {cs:Scope} {n:Nat} {f:Expr→EX} (ih:∀ e,SV cs n (f e) e) (l:Expr) (ops:List CmpOp) (rs:List Expr) (p:Pos):SV cs n (evCmp f (f l) ops rs) (.Compare l ops rs p):=by
  cases ops with
  | nil=>exact sv_no
  | cons op ops=>
    cases rs with
    | nil=>exact sv_no
    | cons r rs=>
      cases ops with
      | nil=>
        cases rs with
        | nil=>exact sv_if fun hn=>⟨se_cmp _ _ hn (ih _).1 (ih _).1,st_cmp _ _ hn (ih _).1 (ih _).1⟩
        | cons _ _=>exact sv_no
      | cons op' ops=>
        cases ops with
        | cons _ _=>exact sv_no
        | nil=>
          cases rs with
          | nil=>exact sv_no
          | cons r' rs=>
            cases rs with
            | nil=>exact sv_if fun hn=>⟨se_cmp2 _ _ _ hn (ih _).1 (ih _).1 (ih _).1,st_cmp2 _ _ _ hn (ih _).1 (ih _).1 (ih _).1⟩
            | cons _ _=>exact sv_no
theorem se_sl {cs:Scope} {n:Nat} {f:Expr→EX} (ih:∀ e,SV cs n (f e) e) (v:Expr) (lo hi:Option Expr) (p p':Pos):SE cs n (evSl cs v (lo.map f) (hi.map f) (f v)) (.Subscript v (.Slice lo hi none p') p):=
  se_opt (fun x hx=>nameOf_i hx fun q e=>by rw [e]; exact se_sliceX _ _ _ (seo_map ih _) (seo_map ih _)) fun _=>se_slice _ _ (ih _).1 (seo_map ih _) (seo_map ih _)
theorem sv_sub {cs:Scope} {n:Nat} {f:Expr→EX} (ih:∀ e,SV cs n (f e) e) (v sl:Expr) (p:Pos):SV cs n (evSub cs f v sl) (.Subscript v sl p):=by
  have key:SE cs n (evSub cs f v sl) (.Subscript v sl p):=
    se_if2 (fun h=>se_idx _ h (ih _).1 (ih _).1) fun _=>se_opt (fun q h=>slOf_i h fun p' e=>by rw [e]; exact se_sl ih _ _ _ _ _) fun _=>se_no
  exact ⟨key,st_of key fun _ _=>rfl⟩
theorem sv_dict {cs:Scope} {n:Nat} (ks:List (Option Expr)) (vs:List Expr) (p:Pos):SV cs n (evDict ks vs) (.Dict ks vs p):=by
  cases ks with
  | cons _ _=>exact sv_no
  | nil=>
    cases vs with
    | nil=>exact ⟨se_dict0 _,st_of (se_dict0 _) fun _ _=>rfl⟩
    | cons _ _=>exact sv_no
theorem sv_call {k:Nat} {cf:CallF} (hcf:SC k cf) {cs:Scope} {f:Expr→EX} (ih:∀ e,SV cs (k+1) (f e) e) (fn:Expr) (es:List Expr) (kws:List Keyword) (pos:Pos):SV cs (k+1) (evCall cf cs f fn es kws pos) (.Call fn es kws pos):=by
  have key:SE cs (k+1) (evCall cf cs f fn es kws pos) (.Call fn es kws pos):=by
    cases kws with
    | cons _ _=>exact se_no
    | nil=>exact se_opt (fun x h=>nameOf_i h fun p e=>by rw [e]; exact se_nameCall hcf _ _ _ _ (ses_map ih _)) fun _=>se_opt (fun q h=>attrOf_i h fun e=>by rw [e]; exact se_methC hcf _ _ _ _ _ (ih _).1 (ses_map ih _)) fun _=>se_no
  exact ⟨key,st_of key fun _ _=>rfl⟩
theorem sv_comp {cs:Scope} {n:Nat} {f:Scope→Expr→EX} (ih:∀ cs e,SV cs n (f cs e) e) (elt:Expr) (gens:List Comprehension) (scope:Scope) (p:Pos):SV cs n (evComp cs f elt gens scope) (.ListComp elt gens scope p):=by
  cases gens with
  | nil=>exact sv_no
  | cons g gs=>
    cases gs with
    | cons _ _=>exact sv_no
    | nil=>
      obtain ⟨tg,ie,ifs,asy⟩:=g
      have key:SE cs n (evGen cs f elt tg ie ifs asy scope) (.ListComp elt [⟨tg,ie,ifs,asy⟩] scope p):=
        se_opt (fun x h=>nameOf_i h fun q e=>se_if2 (fun hn=>by
          obtain ⟨h1,rfl,hn⟩:=hn
          rw [e,List.isEmpty_iff.mp h1]
          exact se_comp _ _ hn (si_iterOf (ih cs) _) (ih _ _).1) fun _=>se_no) fun _=>se_no
      exact ⟨key,st_of key fun _ _=>rfl⟩
theorem sv_bool {cs:Scope} {n:Nat} {f:Expr→EX} (ih:∀ e,SV cs n (f e) e) (op:BoolOp) (es:List Expr) (p:Pos):SV cs n (evBool op (es.map f)) (.BoolOp op es p):=by
  cases op
  · have:=se_all p (ses_map ih es)
    refine ⟨this.1,?_⟩
    cases es with
    | nil=>exact st_no
    | cons a r=>exact this.2 (fun q=>nomatch q)
  · have:=se_any p (ses_map ih es)
    refine ⟨this.1,?_⟩
    cases es with
    | nil=>exact st_no
    | cons a r=>exact this.2 (fun q=>nomatch q)
theorem sv_un {cs:Scope} {n:Nat} {c:EX} {x:Expr} (ih:SV cs n c x) (op:UnaryOp) (p:Pos):SV cs n (evUn op c) (.UnaryOp op x p):=by
  cases op
  · exact sv_no
  · exact ⟨se_not _ ih.1,st_not _ ih.2⟩
  · exact sv_no
  · exact ⟨se_neg _ ih.1,st_of (se_neg _ ih.1) fun _ _=>rfl⟩
theorem ev_sound {k:Nat} {cf:CallF} (hcf:SC k cf):∀ (n:Nat) (cs:Scope) (e:Expr),SV cs (k+1) (ev cf n cs e) e:=by
  intro n
  induction n with
  | zero=>intro cs e; exact sv_no
  | succ n ih=>
    intro cs e
    cases e with
    | Constant c a b=>exact ⟨se_const _ _ _,st_of (se_const _ _ _) fun _ _=>rfl⟩
    | Name x p=>exact ⟨se_name _ _,st_of (se_name _ _) fun _ _=>rfl⟩
    | Attribute o x p=>
      exact sv_if fun hb=>⟨se_attr _ _ hb (ih cs _).1,st_of (se_attr _ _ hb (ih cs _).1) fun _ _=>rfl⟩
    | BinOp l op r p=>exact ⟨se_bin _ _ (ih cs _).1 (ih cs _).1,st_of (se_bin _ _ (ih cs _).1 (ih cs _).1) fun _ _=>rfl⟩
    | UnaryOp op x p=>exact sv_un (ih cs _) op p
    | BoolOp op es p=>exact sv_bool (ih cs) op es p
    | Compare l ops rs p=>exact sv_cmp (ih cs) l ops rs p
    | IfExp t b o p=>exact ⟨se_if _ (ih cs _).2 (ih cs _).1 (ih cs _).1,st_if _ (ih cs _).2 (ih cs _).2 (ih cs _).2⟩
    | Subscript v sl p=>exact sv_sub (ih cs) v sl p
    | List es p=>
      exact sv_if fun hn=>⟨se_list _ (ses_map (ih cs) _) hn,st_of (se_list _ (ses_map (ih cs) _) hn) fun _ _=>rfl⟩
    | Tuple es q p=>
      exact sv_if fun hn=>⟨se_tup _ _ (ses_map (ih cs) _) hn,st_of (se_tup _ _ (ses_map (ih cs) _) hn) fun _ _=>rfl⟩
    | Dict ks vs p=>exact sv_dict ks vs p
    | Call fn es kws pos=>exact sv_call hcf (ih cs) fn es kws pos
    | ListComp elt gens scope p=>exact sv_comp ih elt gens scope p
    | _=>exact sv_no
noncomputable abbrev tgSub (f:Expr→EX) (v sl:Expr):TX:=if notSlice sl then tIdx (f v) (f sl) else sel (slOf sl) (fun q=>tSlice (f v) (q.1.map f) (q.2.map f)) noT
noncomputable def tg (cf:CallF):Nat→Scope→Expr→TX
  | 0,_,_=>noT
  | n+1,cs,t=>match t with
    | .Name x _=>tName cs x
    | .Attribute o x _=>tAttr (ev cf n cs o) x
    | .Subscript v sl _=>tgSub (ev cf n cs) v sl
    | .Tuple ts _ _=>if ts.all noStar then tTup (ts.map (tg cf n cs)) else noT
    | _=>noT
theorem sa_no {cs:Scope} {n:Nat} {t:Expr}:SA cs n noT t:=fun w g₀ g ι δ H m ρ ρ' env L cl A E s Q v v' H' X R C r e K=>no_some e
theorem sa_if2 {cs:Scope} {n:Nat} {q:Prop} [Decidable q] {c d:TX} {e:Expr} (h:q→SA cs n c e) (h':¬q→SA cs n d e):SA cs n (if q then c else d) e:=by
  by_cases hq:q
  · rw [if_pos hq]; exact h hq
  · rw [if_neg hq]; exact h' hq
theorem sas_map {cs:Scope} {n:Nat} {f:Expr→TX} (h:∀ e,SA cs n (f e) e):∀ es:List Expr,SAs cs n (es.map f) es
  | []=>.nil
  | e::es=>.cons (h e) (sas_map h es)
theorem sa_sub {cs:Scope} {n:Nat} {f:Expr→EX} (ih:∀ e,SV cs n (f e) e) (v sl:Expr) (p:Pos):SA cs n (tgSub f v sl) (.Subscript v sl p):=
  sa_if2 (fun h=>sa_idx _ (ih _).1 (ih _).1) fun _=>by
    cases h:slOf sl with
    | none=>exact sa_no
    | some q=>exact slOf_i h fun p' e=>by rw [e]; exact sa_slice _ _ (ih _).1 (seo_map ih _) (seo_map ih _)
theorem tg_sound {k:Nat} {cf:CallF} (hcf:SC k cf):∀ (n:Nat) (cs:Scope) (t:Expr),SA cs (k+1) (tg cf n cs t) t:=by
  intro n
  induction n with
  | zero=>intro cs t; exact sa_no
  | succ n ih=>
    intro cs t
    cases t with
    | Name x p=>exact sa_name _ _
    | Attribute o x p=>exact sa_attr _ _ (ev_sound hcf n cs _).1
    | Subscript v sl p=>exact sa_sub (ev_sound hcf n cs) v sl p
    | Tuple ts q p=>
      exact sa_if2 (fun hn=>sa_tup _ _ (sas_map (ih cs) _) hn) fun _=>sa_no
    | _=>exact sa_no
noncomputable def exB (f:Stmt→SX):List Stmt→SX
  | []=>sNil
  | s::r=>sSeq (f s) (exB f r)
noncomputable def asgn (cf:CallF) (n:Nat) (cs:Scope) (t e:Expr):SX:=
  if swOk e t && noStar t then sel (swKind cs t e) (fun q=>sel q (fun names=>sSwap cs (ev cf n cs e) names) (sAssign (ev cf n cs e) (tg cf n cs t))) noS else noS
noncomputable abbrev exRet (f:Expr→EX) (v:Option Expr):SX:=match v with
  | none=>sRet0
  | some e=>sRet (f e)
noncomputable abbrev exNil (o:List Stmt) (c:SX):SX:=match o with
  | []=>c
  | _::_=>noS
noncomputable abbrev exGen (cs:Scope) (f:Scope→Expr→EX) (y:Str) (same:Bool) (elt tgt ie:Expr) (ifs:List Expr) (asy:Int) (scope:Scope):SX:=sel (nameOf tgt) (fun x=>if ifs.isEmpty∧asy=0∧noSet ie=true∧swYes cs scope y same=true then sAssignComp cs y (eComp scope cs x (iterOf (f cs) cs ie) (f (relab scope cs) elt)) else noS) noS
noncomputable abbrev exComp (cs:Scope) (f:Scope→Expr→EX) (y:Str) (same:Bool) (elt:Expr) (gens:List Comprehension) (scope:Scope):SX:=match gens with
  | []=>noS
  | g::gs=>(match gs with
    | []=>exGen cs f y same elt g.target g.iter g.ifs g.is_async scope
    | _::_=>noS)
noncomputable def posOf (e:Expr):Pos:=match e with
  | .Name _ p=>p
  | _=>default
noncomputable def lcOf (e:Expr):Option (Expr×List Comprehension×Scope×Pos):=match e with
  | .ListComp elt gens scope p=>some (elt,gens,scope,p)
  | _=>none
theorem lcOf_i {e:Expr} {q:Expr×List Comprehension×Scope×Pos} {G:Prop} (h:lcOf e=some q) (K:e=.ListComp q.1 q.2.1 q.2.2.1 q.2.2.2→G):G:=by
  cases e <;> first | exact no_some h | exact K (by rw [← Option.some.inj h])
noncomputable abbrev exAsg (cf:CallF) (n:Nat) (cs:Scope) (t e:Expr):SX:=sel (lcOf e) (fun q=>sel (nameOf t) (fun y=>exComp cs (ev cf n) y ((posOf t).line == q.2.2.2.line) q.1 q.2.1 q.2.2.1) (asgn cf n cs t e)) (asgn cf n cs t e)
noncomputable abbrev exAsgs (cf:CallF) (n:Nat) (cs:Scope) (ts:List Expr) (e:Expr):SX:=match ts with
  | []=>noS
  | t::r=>(match r with
    | []=>exAsg cf n cs t e
    | _::_=>noS)
noncomputable def ex (cf:CallF):Nat→Scope→Stmt→SX
  | 0,_,_=>noS
  | n+1,cs,st=>match st with
    | .Return v _=>exRet (ev cf n cs) v
    | .Expr e _=>if noComp e then sExpr (ev cf n cs e) else noS
    | .If t b o _=>sIf (ev cf n cs t) (exB (ex cf n cs) b) (exB (ex cf n cs) o)
    | .While t b o _=>exNil o (sWhile (ev cf n cs t) (exB (ex cf n cs) b))
    | .For t ie b o _=>exNil o (if noSet ie then sFor (iterOf (ev cf n cs) cs ie) (tg cf n cs t) (exB (ex cf n cs) b) else noS)
    | .Assign ts e _=>exAsgs cf n cs ts e
    | _=>noS
theorem ss_no {cs:Scope} {n:Nat} {st:Stmt}:SS cs n noS st:=fun w g₀ g ι δ H m ρ ρ' env L cl A E s Q f H' X R C e K=>no_some e
theorem ss_if2 {cs:Scope} {n:Nat} {q:Prop} [Decidable q] {c:SX} {e:Stmt} (h:q→SS cs n c e):SS cs n (if q then c else noS) e:=by
  by_cases hq:q
  · rw [if_pos hq]; exact h hq
  · rw [if_neg hq]; exact ss_no
theorem ss_opt {cs:Scope} {n:Nat} {α:Type} {o:Option α} {f:α→SX} {d:SX} {e:Stmt} (h:∀ x,o=some x→SS cs n (f x) e) (h':o=none→SS cs n d e):SS cs n (sel o f d) e:=by
  cases o with
  | some x=>exact h x rfl
  | none=>exact h' rfl
theorem sb_exB {cs:Scope} {n:Nat} {f:Stmt→SX} (h:∀ s,SS cs n (f s) s):∀ l:List Stmt,SB cs n (exB f l) l
  | []=>sb_nil
  | s::r=>sb_cons (h s) (sb_exB h r)
theorem ss_asgn {k:Nat} {cf:CallF} (hcf:SC k cf) (n:Nat) {cs:Scope} (hk:cs.kind=.function) (t e:Expr) (p:Pos):SS cs (k+1) (asgn cf n cs t e) (.Assign [t] e p):=
  ss_if2 fun hq=>by
    rw [Bool.and_eq_true] at hq
    refine ss_opt (fun q h=>?_) fun _=>ss_no
    cases q with
    | none=>exact ss_assign p hq.1 (fun env he=>swKind_eq hk he h) hq.2 (ev_sound hcf n cs _).1 (tg_sound hcf n cs _)
    | some names=>exact ss_swap p hq.1 (fun env he=>swKind_eq hk he h) (ev_sound hcf n cs _).1
theorem ss_comp {k:Nat} {cf:CallF} (hcf:SC k cf) (n:Nat) {cs:Scope} (hk:cs.kind=.function) (y:Str) (py:Pos) (elt:Expr) (gens:List Comprehension) (scope:Scope) (p p':Pos) :
    SS cs (k+1) (exComp cs (ev cf n) y (py.line == p.line) elt gens scope) (.Assign [.Name y py] (.ListComp elt gens scope p) p'):=by
  cases gens with
  | nil=>exact ss_no
  | cons g gs=>
    cases gs with
    | cons _ _=>exact ss_no
    | nil=>
      obtain ⟨tg,ie,ifs,asy⟩:=g
      exact ss_opt (fun x h=>nameOf_i h fun q e=>ss_if2 fun hn=>by
        obtain ⟨h1,rfl,hn,hs⟩:=hn
        show SS cs (k+1) _ (.Assign [.Name y py] (.ListComp elt [⟨tg,ie,ifs,0⟩] scope p) p')
        have e:tg=.Name x q:=e
        have e2:ifs=[]:=List.isEmpty_iff.mp h1
        rw [e,e2]
        exact ss_assignComp _ _ _ _ hk hn hs (si_iterOf (ev_sound hcf n cs) _) (ev_sound hcf n _ _).1) fun _=>ss_no
theorem ss_exAsg {k:Nat} {cf:CallF} (hcf:SC k cf) (n:Nat) {cs:Scope} (hk:cs.kind=.function) (t e:Expr) (p:Pos):SS cs (k+1) (exAsg cf n cs t e) (.Assign [t] e p):=
  ss_opt (fun q h=>ss_opt (fun y hy=>nameOf_i hy fun py ht=>lcOf_i h fun he=>by
    rw [ht,he]
    exact ss_comp hcf n hk _ _ _ _ _ _ _) fun _=>ss_asgn hcf n hk _ _ _) fun _=>ss_asgn hcf n hk _ _ _
theorem ss_exNil {cs:Scope} {n:Nat} {c:SX} {o:List Stmt} {mk:List Stmt→Stmt} (h:SS cs n c (mk [])):SS cs n (exNil o c) (mk o):=by
  cases o with
  | nil=>exact h
  | cons _ _=>exact ss_no
theorem ss_ret' {cs:Scope} {n:Nat} {f:Expr→EX} (ih:∀ e,SV cs n (f e) e) (v:Option Expr) (p:Pos):SS cs n (exRet f v) (.Return v p):=by
  cases v with
  | none=>exact ss_ret0 _
  | some e=>exact ss_ret _ (ih e).1
theorem ss_for' {cs:Scope} {n:Nat} {i:IX} {d:TX} {b:SX} {te ie:Expr} {bs:List Stmt} (p:Pos) (hi:SI cs n i ie) (hd:SA cs n d te) (hb:SB cs n b bs):SS cs n (if noSet ie then sFor i d b else noS) (.For te ie bs [] p):=
  ss_if2 fun hn=>ss_for _ hn hi hd hb
theorem ss_expr' {cs:Scope} {n:Nat} {c:EX} {e:Expr} (p:Pos) (hk:cs.kind=.function) (h:SE cs n c e):SS cs n (if noComp e then sExpr c else noS) (.Expr e p):=
  ss_if2 fun hn=>ss_expr _ hn hk h
theorem ss_exAsgs {k:Nat} {cf:CallF} (hcf:SC k cf) (n:Nat) {cs:Scope} (hk:cs.kind=.function) (ts:List Expr) (e:Expr) (p:Pos):SS cs (k+1) (exAsgs cf n cs ts e) (.Assign ts e p):=by
  cases ts with
  | nil=>exact ss_no
  | cons t r=>
    cases r with
    | nil=>exact ss_exAsg hcf n hk _ _ _
    | cons _ _=>exact ss_no
theorem ex_sound {k:Nat} {cf:CallF} (hcf:SC k cf) {cs:Scope} (hk:cs.kind=.function):∀ (n:Nat) (st:Stmt),SS cs (k+1) (ex cf n cs st) st:=by
  intro n
  induction n with
  | zero=>intro st; exact ss_no
  | succ n ih=>
    intro st
    cases st with
    | Return v p=>exact ss_ret' (ev_sound hcf n cs) v p
    | Expr e p=>exact ss_expr' p hk (ev_sound hcf n cs _).1
    | If t b o p=>exact ss_if _ (ev_sound hcf n cs _).2 (sb_exB ih _) (sb_exB ih _)
    | While t b o p=>exact ss_exNil (mk:=fun o=>.While t b o p) (ss_while _ (ev_sound hcf n cs _).2 (sb_exB ih _))
    | For t ie b o p=>exact ss_exNil (mk:=fun o=>.For t ie b o p) (ss_for' _ (si_iterOf (ev_sound hcf n cs) _) (tg_sound hcf n cs _) (sb_exB ih _))
    | Assign ts e p=>exact ss_exAsgs hcf n hk ts e p
    | _=>exact ss_no
end Mine
end
section
open PySem PySem.W PyProof.Rows PySem.Calls
set_option Elab.async false
set_option linter.all false
set_option autoImplicit false
set_option maxRecDepth 100000
namespace Mine
noncomputable def vrB (u:Value) (v:AV):Bool:=match v with
  | .none=>(match u with
    | .none=>true
    | _=>false)
  | .bool c=>(match u with
    | .bool b=>b == c
    | _=>false)
  | .int j=>(match u with
    | .int i _=>i == j
    | _=>false)
  | _=>false
theorem vrB_vr {ι:List Addr} {u:Value} {v:AV} (h:vrB u v=true):VR ι u v:=by
  cases v with
  | none=>cases u <;> first | exact .none | exact (Bool.false_ne_true h).elim
  | bool c=>cases u <;> first | (rw [← show _=c from eq_of_beq h]; exact .bool _) | exact (Bool.false_ne_true h).elim
  | int j=>cases u <;> first | (rw [← show _=j from eq_of_beq h]; exact .int _ _) | exact (Bool.false_ne_true h).elim
  | _=>exact (Bool.false_ne_true h).elim
noncomputable def dflt:List (Nat×AV):=[(747,.bool false),(762,.none),(538,.int 8)]
noncomputable def refOf (u:Value):Option Addr:=match u with
  | .ref T=>some T
  | _=>none
noncomputable def isNn (u:Value):Bool:=match u with
  | .none=>true
  | _=>false
noncomputable def seq1 (o:Obj):Option Value:=match o.data with
  | .seq items _=>(match items.toList with
    | []=>none
    | u::r=>if r.isEmpty then some u else none)
  | _=>none
noncomputable def dfB (Pm:Params) (q:Nat×Stmt):Bool:=match dflt.lookup q.1 with
  | none=>isNn (fdOf Pm q.1).defaults
  | some v=>(match (refOf (fdOf Pm q.1).defaults).bind fun T=>((KK Pm).lookup T).bind seq1 with
    | none=>false
    | some u=>vrB u v)
theorem isNn_eq {u:Value} (h:isNn u=true):u=.none:=by cases u <;> first | rfl | exact (Bool.false_ne_true h).elim
theorem refOf_eq {u:Value} {T:Addr} (h:refOf u=some T):u=.ref T:=by cases u <;> first | exact no_some h | exact congrArg Value.ref (Option.some.inj h)
theorem seq1_eq {o:Obj} {u:Value} (h:seq1 o=some u):∃ items n,o.data=.seq items n∧items=#[u]:=by
  unfold seq1 at h
  cases e:o.data <;> rw [e] at h <;> first | exact no_some h | skip
  rename_i items n
  refine ⟨items,n,rfl,?_⟩
  rw [← Array.toArray_toList (xs:=items)]
  dsimp only at h
  cases q:items.toList with
  | nil=>rw [q] at h; exact no_some h
  | cons a r=>rw [q] at h; exact if_i h fun h1 h=>by rw [Option.some.inj h,List.isEmpty_iff.mp h1]
theorem df_ok (Pm:Params):FT.all (dfB Pm)=true:=by kernel_rfl
structure FnOk (Pm:Params) (f:Nat) (st:Stmt) (o:Obj) (fd:FuncData):Prop where
  K:(KK Pm).lookup f=some o
  d:o.data=.func fd
  sig:sigF fd=sigS st
  code:codeIn (KK Pm) fd.code fd.qualname=true
  df:(fd.defaults=.none∧dflt.lookup f=none)∨(∃ T ot items n u v,fd.defaults=.ref T∧(KK Pm).lookup T=some ot∧ot.data=.seq items n∧items=#[u]∧dflt.lookup f=some v∧vrB u v=true)
theorem fn_ok (Pm:Params) {f:Nat} {st:Stmt} (h:FT.lookup f=some st):∃ o fd,FnOk Pm f st o fd:=by
  have hm:=lookup_mem h
  have h1:=List.map_inj_left.mp (FT_ok Pm) _ hm
  have h2:=List.all_eq_true.mp (FT_is Pm) _ hm
  have h3:=List.all_eq_true.mp (df_ok Pm) _ hm
  simp only at h1
  unfold fnIs at h2
  simp only at h2
  split at h2
  · rename_i c d fd sl e
    have hfd:fdOf Pm f=fd:=by unfold fdOf; rw [e]
    rw [hfd] at h1
    refine ⟨_,fd,⟨e,rfl,h1,h2,?_⟩⟩
    unfold dfB at h3
    simp only [hfd] at h3
    cases e2:dflt.lookup f with
    | none=>rw [e2] at h3; exact .inl ⟨isNn_eq h3,rfl⟩
    | some v=>
      rw [e2] at h3
      dsimp only at h3
      cases e1:(refOf fd.defaults).bind fun T=>((KK Pm).lookup T).bind seq1 with
      | none=>rw [e1] at h3; cases h3
      | some u=>
        rw [e1] at h3
        exact bind_i e1 fun T q1 e1=>bind_i e1 fun ot q2 e1=>let ⟨items,n,q3,q4⟩:=seq1_eq e1
          .inr ⟨T,ot,items,n,u,v,refOf_eq q1,q2,q3,q4,rfl,h3⟩
  · cases h2
noncomputable def locOf (l:List (Str×AV)):Loc:=fun x=>l.reverse.lookup x
inductive PRs (ι:List Addr):List (Str×Value)→List (Str×AV)→Prop
  | nil:PRs ι [] []
  | cons {x:Str} {v':Value} {v:AV} {l':List (Str×Value)} {l:List (Str×AV)}:VR ι v' v→PRs ι l' l→PRs ι ((x,v')::l') ((x,v)::l)
theorem prs_zip {ι:List Addr}:∀ {ns:List Str} {vs':List Value} {vs:List AV},VRs ι vs' vs→PRs ι (ns.zip vs') (ns.zip vs)
  | [],_,_,_=>.nil
  | n::ns,vs',[],r=>by obtain rfl:=r.of_nil; exact .nil
  | n::ns,vs',v::vs,r=>by
    obtain ⟨v',ws,rfl,r1,r2⟩:=r.of_cons
    exact .cons r1 (prs_zip r2)
theorem look_snoc {α:Type} {x y:Str} {v:α} {l:List (Str×α)}:(l++[(y,v)]).lookup x=match l.lookup x with
    | some u=>some u
    | none=>if x=y then some v else none:=by
  induction l with
  | nil=>
    show List.lookup x [(y,v)]=_
    rw [List.lookup_cons]
    by_cases h:x=y
    · subst h; simp
    · have:(x == y)=false:=by simpa using h
      rw [this]; simp [h]
  | cons p l ih=>
    obtain ⟨z,u⟩:=p
    rw [List.cons_append,List.lookup_cons,List.lookup_cons]
    cases x == z with
    | true=>rfl
    | false=>exact ih
theorem bind_L {kindOf:Str→Option NameKind} {x:Str}:∀ {l:List (Str×Value)} {m:Str→Option Value},kindOf x=some .local→bindL kindOf l m x=match l.reverse.lookup x with
    | some v=>some v
    | none=>m x
  | [],m,_=>rfl
  | (n,v)::r,m,h=>by
    unfold bindL
    rw [bind_L h,List.reverse_cons,look_snoc]
    cases r.reverse.lookup x with
    | some u=>rfl
    | none=>
      by_cases q:x=n
      · subst q; simp [h]
      · simp only [if_neg q]
        split <;> simp [q]
theorem bind_C {kindOf:Str→Option NameKind} {x:Str}:∀ {l:List (Str×Value)} {m:Str→Option Value},kindOf x≠some .local→bindC kindOf l m x=match l.reverse.lookup x with
    | some v=>some v
    | none=>m x
  | [],m,_=>rfl
  | (n,v)::r,m,h=>by
    unfold bindC
    rw [bind_C h,List.reverse_cons,look_snoc]
    cases r.reverse.lookup x with
    | some u=>rfl
    | none=>
      by_cases q:x=n
      · subst q; simp [h]
      · simp only [if_neg q]
        split <;> simp [q]
theorem prs_look {ι:List Addr} {l':List (Str×Value)} {l:List (Str×AV)} (r:PRs ι l' l) {x:Str} {v:AV} (h:l.reverse.lookup x=some v):∃ v',l'.reverse.lookup x=some v'∧VR ι v' v:=by
  have key:∀ {l':List (Str×Value)} {l:List (Str×AV)},PRs ι l' l→(∀ v,l.reverse.lookup x=some v→∃ v',l'.reverse.lookup x=some v'∧VR ι v' v)∧(l.reverse.lookup x=none→l'.reverse.lookup x=none):=by
    intro l' l r
    induction r with
    | nil=>exact ⟨fun v h=>by simp at h,fun _=>rfl⟩
    | @cons y v' v l' l rv rs ih=>
      rw [List.reverse_cons,List.reverse_cons,look_snoc,look_snoc]
      cases h1:l.reverse.lookup x with
      | some u=>
        obtain ⟨u',h2,h3⟩:=ih.1 u h1
        rw [h2]
        exact ⟨fun v h=>by simp at h; subst h; exact ⟨u',rfl,h3⟩,fun h=>by simp at h⟩
      | none=>
        rw [ih.2 h1]
        by_cases q:x=y
        · simp only [if_pos q]; exact ⟨fun v h=>by simp at h; subst h; exact ⟨v',rfl,rv⟩,fun h=>by simp at h⟩
        · simp only [if_neg q]; exact ⟨fun v h=>by simp at h,fun _=>trivial⟩
  exact (key r).1 v h
noncomputable def okF (ps:Arguments) (sc:Scope):Bool:=
  simpleP ps && decide (namesOf ps).Nodup && !sc.isCoroutine && !sc.isGenerator && sc.kind == .function &&
  (namesOf ps).all (fun x=>sc.names.lookup x == some .local || sc.names.lookup x == some .cell)
noncomputable def fill (f:Nat) (ps:Arguments) (vs:List AV):Option (List AV):=match dflt.lookup f with
  | none=>if vs.length=(namesOf ps).length then some vs else none
  | some d=>if vs.length+1=(namesOf ps).length then some (vs++[d]) else none
noncomputable def runF (cf:CallF) (f:Nat) (ps:Arguments) (body:List Stmt) (sc:Scope) (vs:List AV) (H:Hp):Option (AV×Hp):=
  if okF ps sc then (fill f ps vs).bind fun vs1=>oF (exB (ex cf 60 sc) body (locOf ((namesOf ps).zip vs1)) H) (fun _ H'=>some (.none,H')) (fun v _ H'=>some (v,H')) else none
noncomputable def fnOf (st:Stmt):Option (Arguments×List Stmt×Scope):=match st with
  | .FunctionDef _ ps body _ _ _ sc _ _ _=>some (ps,body,sc)
  | _=>none
noncomputable def callF:Nat→CallF
  | 0,_,_,_=>none
  | k+1,f,vs,H=>(FT.lookup f).bind fun st=>(fnOf st).bind fun q=>runF (callF k) f q.1 q.2.1 q.2.2 vs H
theorem sc_zero:SC 0 (callF 0):=fun w g₀ g ι δ H A E s Q v H' f vs vs' S kp xs sz R C e r K=>no_some e
theorem fill_binds {Pm:Params} {f:Nat} {st:Stmt} {o:Obj} {fd:FuncData} (F:FnOk Pm f st o fd) (hp:simpleP fd.params=true) (hn:(namesOf fd.params).Nodup) {vs vs1:List AV} (h:fill f fd.params vs=some vs1) {ι:List Addr} {vs':List Value} (r:VRs ι vs' vs) {s:Shared} (X:(KK Pm).In s.heap) :
    ∃ vs1',VRs ι vs1' vs1∧BindsTo s fd ⟨vs',[]⟩ ((namesOf fd.params).zip vs1'):=by
  obtain ⟨k,h1,h2⟩:=bind_k (vs:=vs') hp hn
  unfold fill at h
  rcases F.df with ⟨d1,d2⟩ | ⟨T,ot,items,n,u,v,d1,d2,d3,d4,d5,d6⟩
  · rw [d2] at h
    refine if_i h fun hl h=>⟨vs',Option.some.inj h ▸ r,BindsTo.of_eq ?_⟩
    rw [h1,d1]
    show k none=_
    rw [h2 none (r.len.trans hl)]
    exact congrArg (fun l=>pure ((namesOf fd.params).zip l)) (List.append_nil _)
  · rw [d5] at h
    refine if_i h fun hl h=>⟨vs'++[u],Option.some.inj h ▸ r.append (.cons (vrB_vr d6) .nil),BindsTo.of_defaults d1 (X _ _ d2) d3 h1 ?_⟩
    rw [d4]
    exact h2 (some #[u]) (by rw [r.len]; exact hl)
end Mine
end
section
open PySem PySem.W PyProof.Rows PySem.Calls
set_option Elab.async false
set_option linter.all false
set_option autoImplicit false
set_option maxRecDepth 100000
namespace Mine
theorem Room.deep {A:Around} {n:Nat} {env:Env} (R:Room A (n+1)):Room (A.deeper env) n:=⟨R.h,room_d R.d,room_u R.u⟩
theorem zip_name {x:Str} {v:AV} {ns:List Str} {vs:List AV} (h:locOf (ns.zip vs) x=some v):x∈ns:=
  (List.of_mem_zip (List.mem_reverse.mp (lookup_mem h))).1
theorem zip_val {x:Str} {v:AV} {ns:List Str} {vs:List AV} (h:locOf (ns.zip vs) x=some v):v∈vs:=
  (List.of_mem_zip (List.mem_reverse.mp (lookup_mem h))).2
theorem dflt_is {f:Nat} {d:AV} (h:dflt.lookup f=some d):d∈[AV.bool false,.none,.int 8]:=List.mem_map (f:=Prod.snd) (l:=dflt) |>.mpr ⟨_,lookup_mem h,rfl⟩
theorem fill_mem {f:Nat} {ps:Arguments} {vs vs1:List AV} {v:AV} (h:fill f ps vs=some vs1) (hm:v∈vs1):v∈vs∨v∈[AV.bool false,.none,.int 8]:=by
  unfold fill at h
  cases hd:dflt.lookup f with
  | none=>rw [hd] at h; exact if_i h fun _ h=>.inl (Option.some.inj h ▸ hm)
  | some d=>
    rw [hd] at h
    refine if_i h fun _ h=>?_
    rw [← Option.some.inj h] at hm
    exact (List.mem_append.mp hm).imp id fun h=>(List.mem_singleton.mp h:v=d) ▸ dflt_is hd
theorem fnOf_i {st:Stmt} {q:Arguments×List Stmt×Scope} {G:Prop} (h:fnOf st=some q) (K:sigS st=(q.1,.stmts q.2.1,q.2.2,3,[],.none,0,none)→G):G:=by
  cases st <;> first | exact no_some h | exact K (by rw [← Option.some.inj h]; rfl)
theorem okF_i {ps:Arguments} {sc:Scope} {G:Prop} (h:okF ps sc=true) (K:simpleP ps=true→(namesOf ps).Nodup→sc.isCoroutine=false→sc.isGenerator=false→sc.kind=.function→(∀ x∈namesOf ps,sc.names.lookup x=some .local∨sc.names.lookup x=some .cell)→G):G:=by
  unfold okF at h
  rw [Bool.and_eq_true,Bool.and_eq_true,Bool.and_eq_true,Bool.and_eq_true,Bool.and_eq_true,Bool.not_eq_true',Bool.not_eq_true'] at h
  obtain ⟨⟨⟨⟨⟨h1,h2⟩,h3⟩,h4⟩,h5⟩,h6⟩:=h
  exact K h1 (of_decide_eq_true h2) h3 h4 (eq_of_beq h5) fun x hx=>(Bool.or_eq_true_iff.mp (List.all_eq_true.mp h6 x hx)).imp eq_of_beq eq_of_beq
theorem noExt0 {g₀:Heap} {vs:List AV} {f:Nat} {ps:Arguments} {vs1:List AV} {ns:List Str} (xs:∀ (a:Addr) (l:List Int),AV.ext a l∈vs→ExtAt g₀ a l) (hf:fill f ps vs=some vs1) {y:Str} {a:Addr} {l:List Int} (hu:locOf (ns.zip vs1) y=some (.ext a l)):ExtAt g₀ a l:=by
  rcases fill_mem hf (zip_val hu) with h | h
  · exact xs a l h
  · simp at h
theorem Sx.start {w:World} {g₀ g:Heap} {s s1:Shared} {ι:List Addr} {δ:List (Option Addr)} {H:Hp} {env:Env} {sc:Scope} {ns:List Str} {vs1:List AV} {vs1':List Value} (S:Stat w g₀) (kp:∀ (b:Addr) (o:Obj),g₀.get? b=some o→g.get? b=some o) (sz:g₀.objs.size≤s.heap.objs.size) (C:Conc w.params g s.heap ι δ H)
    (ev:EnvOk env sc s.heap.objs.size env.cells) (hk:sc.kind=.function) (h6:∀ x∈ns,sc.names.lookup x=some .local∨sc.names.lookup x=some .cell) (hc:∀ x,sc.names.lookup x=some .cell→(env.cells.lookup x).isSome=true) (r1:VRs ι vs1' vs1)
    (xx:∀ (y:Str) (a:Addr) (l:List Int),locOf (ns.zip vs1) y=some (.ext a l)→ExtAt g₀ a l)
    (x0:s1.heap.Ns s.heap.objs.size (bindL env.kindOf (ns.zip vs1') fun _=>none)) (x1:∀ (b:Addr) (o:Obj),s.heap.get? b=some o→s1.heap.get? b=some o)
    (x2:∀ (y:Str) (c:Addr),env.cells.lookup y=some c→s.heap.objs.size<c∧∃ o,s1.heap.get? c=some o∧o.data=.cell (bindC env.kindOf (ns.zip vs1') (fun _=>none) y)) :
    Sx w g₀ (frzL s1.heap ι δ s.heap.objs.size) s1 ι δ env sc env.cells s.heap.objs.size (bindL env.kindOf (ns.zip vs1') fun _=>none) (locOf (ns.zip vs1)):=by
  have C1:=C.grow x1
  have nO:∀ c:Addr,s.heap.objs.size<c→c ∉ owned ι δ:=fun c hc z=>by
    rcases mem_owned.mp z with ⟨j,z⟩ | ⟨j,z⟩
    · exact absurd (C.alive z) (Nat.not_lt.mpr (Nat.le_of_lt hc))
    · exact absurd (C.aliveD z) (Nat.not_lt.mpr (Nat.le_of_lt hc))
  have cellIn:∀ (y:Str) (c:Addr),env.cells.lookup y=some c→∃ o,(frzL s1.heap ι δ s.heap.objs.size).get? c=some o∧o.data=.cell (bindC env.kindOf (ns.zip vs1') (fun _=>none) y):=fun y c hc=>by
    obtain ⟨hab,o,ho,hd⟩:=x2 y c hc
    exact ⟨o,frzL_get ho (Nat.ne_of_gt hab) (nO c hab),hd⟩
  have hko:∀ y,env.kindOf y=sc.names.lookup y:=fun y=>by unfold Env.kindOf; rw [ev.sc]
  exact {
    ev:=ev
    S:=S
    F:=⟨x0,fun b o e=>x1 _ _ (C.keep _ _ (kp _ _ e)),sz⟩
    fn:=hk
    kp:=fun b o e=>C1.keepL (C.gNone (fresh_size _)) b o (kp b o e)
    gL:=hideAll_none _ (.head _)
    nL:=C.noSize
    ce:=fun y c hc=>let ⟨o,h,_⟩:=cellIn y c hc; ⟨o,h⟩
    exx:=xx
    lr:=fun y u hu=>by
      obtain ⟨u',hu',ru⟩:=prs_look (prs_zip (ns:=ns) r1) hu
      refine ⟨u',ru,(h6 _ (zip_name hu)).imp (fun q=>⟨q,?_⟩) fun q=>?_⟩
      · rw [bind_L (by rw [hko]; exact q),hu']
      · obtain ⟨c,hcc⟩:=Option.isSome_iff_exists.mp (hc y q)
        obtain ⟨o,ho3,ho2⟩:=cellIn y c hcc
        refine ⟨c,o,.inl q,hcc,ho3,?_⟩
        rw [ho2,bind_C (by rw [hko,q]; exact fun q=>nomatch q),hu'] }
theorem sc_succ {n k:Nat} (hcf:SC n (callF k)):SC (n+2) (callF (k+1)):=
  fun w g₀ g ι δ H A E s Q v H' f vs vs' S kp xs sz R C e r K=>bind_i e fun st hst e=>bind_i e fun q hq e=>if_i e fun hok e=>bind_i e fun vs1 hfill e=>okF_i hok fun h1 h2 h3 h4 hk h6=>fnOf_i hq fun hs=>by
    obtain ⟨o,fd,F⟩:=fn_ok w.params hst
    have sg:sigF fd=_:=F.sig.trans hs
    simp only [sigF,Prod.mk.injEq] at sg
    obtain ⟨e1,e2,e3,e4,e5,e6,e7,e8⟩:=sg
    rw [← e1] at h1 h2 h6 hfill e
    rw [← e3] at h3 h4 hk h6 e
    have Kh:(KK w.params).In s.heap:=fun a o e=>C.keep _ _ (kp _ _ (S.K _ _ e))
    obtain ⟨vs1',r1,hb⟩:=fill_binds F h1 h2 hfill r (s:=s) Kh
    have hlim:s.heap.NoLimit:=by
      obtain ⟨mg,mb,T⟩:=S.top
      exact (T.keeps fun b o e=>C.keep _ _ (kp _ _ e)).nolimit
    refine codeAny_call_function (Nat.lt_of_le_of_lt (Nat.le_trans (Nat.le_add_right _ _) (Nat.le_add_right _ _)) R.d) (Kh _ _ F.K) F.d h3 h4 e2 (codeRec_of Kh F.code) (hb _ _ _ _ ?_)
    rw [e5]
    refine wpAny_newFunctionEnv_cells hk (fun x hx=>(h6 _ (List.of_mem_zip hx).1).imp id fun q=>⟨q,cellsFrom_some _ _ _ (.inl q)⟩) fun env he s1 x=>⟨hlim.keeps x.toInCall.keep,codeAny_func ?_⟩
    have hlo:env.locals=s.heap.objs.size:=by rw [he]; rfl
    have X:=Sx.start (s1:=s1) S kp sz C ⟨by rw [he]; rfl,hlo,rfl,by rw [he]; show fd.globals=mainGlobals; rw [e4]; rfl,by rw [he]; show fd.builtins=builtinsNs; rw [e7]; rfl⟩ hk h6 (fun y q=>by rw [he]; exact cellsFrom_some _ _ _ (.inl q)) r1 (fun y a l hu=>noExt0 xs hfill hu)
      (by have:=x.toInCall.ns; rwa [hlo] at this) x.toInCall.keep fun y c hc=>⟨by have:=x.above y c (lookup_mem hc); rwa [hlo] at this,x.cell y c hc⟩
    have sb:SB fd.scope (n+1) (exB (ex (callF k) 60 fd.scope) q.2.1) q.2.1:=sb_exB (ex_sound hcf hk 60) _
    obtain ⟨hh,tk,hs1⟩:=x.toInCall.same
    have rest1:Rest s s1:=by rw [hs1]; exact ⟨rfl,rfl⟩
    have C1:=C.grow x.toInCall.keep
    have kL:=C1.keepL (C.gNone (fresh_size _))
    exact oF_i e (fun ρ1 H1 e9 e=>sb w g₀ _ ι δ H _ _ ρ1 env _ _ (A.deeper env) _ s1 _ _ _ X R.deep C1.frzL e9 fun s2 ι2 δ2 m2 f2 X2 C2 p2 r2 q2=>flN r2 (K.eqs e s2 ι2 δ2 _ (C2.weaken kL) p2 .none (rest1.trans q2)))
      (fun v1 ρ1 H1 e9 e=>sb w g₀ _ ι δ H _ _ ρ1 env _ _ (A.deeper env) _ s1 _ _ _ X R.deep C1.frzL e9 fun s2 ι2 δ2 m2 f2 X2 C2 p2 r2 q2=>flR r2 fun v' rr=>K.eqs e s2 ι2 δ2 _ (C2.weaken kL) p2 rr (rest1.trans q2))
theorem sc_all:∀ k,SC (2 * k) (callF k)
  | 0=>sc_zero
  | k+1=>sc_succ (sc_all k)
end Mine
end
section
open PySem PySem.W PyProof.Rows PySem.Calls
set_option Elab.async false
set_option linter.all false
set_option autoImplicit false
set_option maxRecDepth 100000
namespace Mine
theorem zip_look {o:Obj} {a:Nat}:∀ {l:List Obj} {s n:Nat},((List.range' s n).zip l).lookup a=some o→∃ j,a=s+j∧l[j]?=some o:=by
  intro l
  induction l with
  | nil=>intro s n e; rw [List.zip_nil_right] at e; cases e
  | cons x l ih=>
    intro s n e
    cases n with
    | zero=>cases e
    | succ n=>
      rw [List.range'_succ,List.zip_cons_cons,List.lookup_cons] at e
      cases q:a == s with
      | true=>rw [q] at e; exact ⟨0,eq_of_beq q,e⟩
      | false=>
        rw [q] at e
        obtain ⟨j,h1,h2⟩:=ih e
        exact ⟨j+1,by rw [h1,Nat.add_assoc,Nat.add_comm 1],h2⟩
theorem hf_alive (Pm:Params):(Hd.hf Pm).all (·.alive)=true:=by kernel_rfl
theorem kk_in (Pm:Params):(KK Pm).In (Hd.Hf Pm):=fun a o e=>by
  have e:((List.range' 0 817).zip (Hd.hf Pm)).lookup a=some o:=by rw [← List.range_eq_range']; exact e
  obtain ⟨j,rfl,h⟩:=zip_look e
  rw [Nat.zero_add]
  exact (Heap.get?_eq_some _ _ _).mpr ⟨by unfold Hd.Hf; rw [List.getElem?_toArray]; exact h,List.all_eq_true.mp (hf_alive Pm) o (List.mem_of_getElem? h)⟩
theorem law_at (Pm:Params):nsIn (KK Pm) mainGlobals "law" = some (some (.ref 816)):=by kernel_rfl
theorem law_name:((defOf Hd.qv Hd.rw0.row.name).get (by kernel_rfl)).1.name = "law" := by kernel_rfl
theorem ints_vrs {ι:List Addr} {vs:List Value} {l:List Int} (h:IntsAre vs l):VRs ι vs (l.map .int):=by
  induction h with
  | nil=>exact .nil
  | cons n t _ ih=>exact .cons (.int n t) ih
theorem Conc.nil {Pm:Params} {h:Heap}:Conc Pm h h [] [] []:=
  { keep:=fun _ _ e=>e,li:=rfl,ld:=rfl,gi:=fun k a e=>(nomatch e),gd:=fun k a e=>(nomatch e),ii:=fun j k a e=>(nomatch e),dd:=fun j k a e=>(nomatch e),di:=fun j k a e=>(nomatch e),ob:=fun k o e=>(nomatch e) }
theorem fa_is {w:World} {h:Heap} {mg mb:Str→Option Value} {fa:Addr} (Kx:(KK w.params).In h) (T:TopRead Hd.qv (looseW Hd.qv Hd.lo) mg mb h) (hmg:mg "law" = some (.ref fa)):fa=816:=by
  have:=mg_of Kx T.g (law_at w.params)
  rw [this] at hmg
  cases hmg
  rfl
theorem ext_is {h:Heap} {a:Addr} {vs xs:List Value} {l:List Int} {n:Nat} (h1:h.get? a=some (listOf xs.toArray n)) (hL:h.IsList a vs.toArray) (hI:IntsAre vs l):ExtAt h a l:=by
  obtain ⟨oL,hoL,hcL,nL,hdL⟩:=hL
  rw [h1] at hoL
  cases hoL
  have hxv:xs=vs:=by
    injection (show Data.seq xs.toArray n=Data.seq vs.toArray nL from hdL) with h3 h4
    exact congrArg Array.toList h3
  subst hxv
  exact ⟨_,n,h1,ints_vrs hI⟩
theorem post_ok (args:List WData):Hd.rw0.row.claim.post args (.bool true) args=true:=by
  first
    | kernel_rfl
    | rfl
    | simp [OpenLaw.row,RowW.claim]
theorem law_of_pure (hp:∀ (a:Nat) (l:List Int),l.length≤63→∃ H',callF 12 816 [.ext a l] []=some (.bool true,H')):PySem.Challenge.rw_pq0294_01.Holds:=by
  refine Hd.goal0 ?_
  intro w s₀ s₁ mg mb G Y fa o pm cd doc dV kV ho hd hcd hD hmg hg args vals as hpre hlay hrd hwl hlo
  refine Ground.open G ?_
  intro T B D TE TW
  wrow_args hpre hlay hrd hwl hlo
  rename_i l hs hlay0 hL1 hr1 hl2 as1 as2 a vs as3 hL ra w1 r0 hI hr2 hc1 hc2
  have Kx:(KK w.params).In s₁.heap:=(kk_in w.params).keeps Y
  rw [law_name] at hmg
  have hfa:=fa_is Kx (topRead_of T) hmg
  subst hfa
  have St:Stat w s₁.heap:=⟨Kx,mg,mb,topRead_of T⟩
  have hx:ExtAt s₁.heap a l:=by
    cases w1 with
    | list h1 h2=>exact ext_is h1 hL hI
  obtain ⟨H',hH⟩:=hp a l (Nat.le_of_lt_succ (by lia))
  have Rm:Room callerA (2 * 12):=⟨rfl,by decide,by decide⟩
  refine wpAny_call (sc_all 12 w s₁.heap s₁.heap [] [] [] callerA _ s₁ _ (.bool true) H' 816 [.ext a l] [.ref a] St (fun _ _ e=>e) (fun b l' hm=>?_) (Nat.le_refl _) Rm Conc.nil hH (.cons .ext .nil) fun s' ι' δ' v' C' p' r' q'=>?_)
  · cases List.mem_singleton.mp hm; exact hx
  · cases r'
    refine GoodW.toG ?_
    exact ⟨.inl ⟨.bool true,.bool true,[],rfl,fun _=>rfl,.bool _,post_ok _,fun _=>⟨.nil,fun a h=>nomatch h⟩⟩,C'.keep,q'.os,q'.gens.trans hg⟩
end Mine
end
section
open PySem PySem.W PyProof.Rows PySem.Calls
set_option Elab.async false
set_option linter.all false
set_option autoImplicit false
set_option maxRecDepth 100000
set_option maxHeartbeats 0
namespace Mine
noncomputable def eNone:EX:=fun _ H=>some (.none,H)
noncomputable def eBool (b:Bool):EX:=fun _ H=>some (.bool b,H)
noncomputable def eInt (i:Int):EX:=fun _ H=>some (.int i,H)
noncomputable def eStr (s:Str):EX:=fun _ H=>some (.str s,H)
noncomputable def eVar (x:Str):EX:=fun ρ H=>(ρ x).map fun v=>(v,H)
noncomputable def tVar (x:Str):TX:=fun v ρ H=>if isExt v then none else some (upL ρ x v,H)
noncomputable def eSliceV (x:Str) (lo hi:Option EX):EX:=fun ρ H=>oExt (ρ x)
  (fun _ l=>oB (ePart lo ρ H) fun p H2=>oB (ePart hi ρ H2) fun u H3=>(part p).bind fun lo'=>(part u).bind fun hi'=>
    if l.length≤1000000 then some (.ref H3.length,H3++[.list (pick (l.map .int) lo' hi')]) else none)
  (eSlice (eVar x) lo hi ρ H)
noncomputable def eMapV (ok:Loc→Bool) (inn:Loc→Loc) (x:Str) (i:IX) (c:EX):EX:=fun ρ H=>
  if ok ρ then oB (i ρ H) fun t H1=>(compGo x c H1.length fuelN t (inn ρ) (H1++[.list []])).map fun H2=>(.ref H1.length,H2) else none
noncomputable def sAssignV (x:Str) (c:EX):SX:=fun ρ H=>oB (c ρ H) fun v H1=>oB (tVar x v ρ H1) fun ρ1 H2=>some (.next,ρ1,H2)
noncomputable def sSwapV (c:EX) (names:List Str):SX:=fun ρ H=>oRef (c ρ H) fun k H1=>atTup H1[k]? fun xs=>oB (tSeq (names.reverse.map tVar) xs.reverse ρ H1) fun ρ1 H2=>some (.next,ρ1,H2)
noncomputable def fillV (d:Option AV) (n:Nat) (vs:List AV):Option (List AV):=match d with
  | none=>if vs.length=n then some vs else none
  | some d=>if vs.length+1=n then some (vs++[d]) else none
noncomputable def runV (names:List Str) (d:Option AV) (b:SX) (vs:List AV) (H:Hp):Option (AV×Hp):=
  (fillV d names.length vs).bind fun vs1=>oF (b (locOf (names.zip vs1)) H) (fun _ H'=>some (.none,H')) fun v _ H'=>some (v,H')
noncomputable def scp0:Scope:={ kind:=.function,names:=[(".0",.local),("code",.local)],isGenerator:=false,isCoroutine:=false,more:=[] }
noncomputable def ocs0:Scope:={ kind:=.function,names:=[("signs",.local),("rules",.local),("codes",.local),("state",.local),("string_face",.local),("comment_face",.local),("faces",.local),("start",.local),("end",.local),("sort",.local),("rule",.local),("scanned",.globalImplicit),("painted",.globalImplicit),("COMMENT",.globalImplicit),("ALWAYS",.globalImplicit),("mark_rule",.globalImplicit)],isGenerator:=false,isCoroutine:=false,more:=[] }
noncomputable def scp1:Scope:={ kind:=.function,names:=[(".0",.local),("codes",.local)],isGenerator:=false,isCoroutine:=false,more:=[] }
noncomputable def ocs1:Scope:={ kind:=.function,names:=[("self",.local),("signs",.local),("rules",.local),("string_face",.local),("comment_face",.local),("lines",.local),("LineStates",.globalImplicit)],isGenerator:=false,isCoroutine:=false,more:=[] }
noncomputable def scp2:Scope:={ kind:=.function,names:=[(".0",.local),("line",.local),("lines",.free),("self",.free)],isGenerator:=false,isCoroutine:=false,more:=[] }
noncomputable def ocs2:Scope:={ kind:=.function,names:=[("self",.cell),("lines",.cell),("first",.local),("last",.local),("range",.globalImplicit)],isGenerator:=false,isCoroutine:=false,more:=[] }
noncomputable def scp3:Scope:={ kind:=.function,names:=[(".0",.local),("cell",.local),("abs",.globalImplicit)],isGenerator:=false,isCoroutine:=false,more:=[] }
noncomputable def ocs3:Scope:={ kind:=.function,names:=[("script",.local),("deck",.local),("buffer",.local),("log",.local),("elder",.local),("lock_here",.local),("least",.local),("lap",.local),("lines",.local),("again_here",.local),("codes",.local),("known",.local),("first",.local),("whole_here",.local),("Buffer",.globalImplicit),("ChangeLog",.globalImplicit),("insert_at",.globalImplicit),("_law_codes",.globalImplicit),("_law_fresh",.globalImplicit),("range",.globalImplicit),("_law_draw",.globalImplicit),("_law_lines",.globalImplicit),("len",.globalImplicit),("_law_edit",.globalImplicit),("list",.globalImplicit),("_law_caught_up",.globalImplicit)],isGenerator:=false,isCoroutine:=false,more:=[] }
noncomputable def b_55_1 (cf:CallF):SX:=(sSeq (sAssign (eVar "nests") (tAttr (eVar "self") "nests")) sNil)
noncomputable def b_55_2 (cf:CallF):SX:=(sSeq (sAssign (eVar "end") (tAttr (eVar "self") "end")) (b_55_1 cf))
noncomputable def b_55_3 (cf:CallF):SX:=(sSeq (sAssign (eVar "start") (tAttr (eVar "self") "start")) (b_55_2 cf))
noncomputable def b_55_4 (cf:CallF):SX:=(sSeq (sAssign (eVar "line_starts") (tAttr (eVar "self") "line_starts")) (b_55_3 cf))
noncomputable def b_55_5 (cf:CallF):SX:=(sSeq (sAssign (eVar "escape") (tAttr (eVar "self") "escape")) (b_55_4 cf))
noncomputable def b_55 (cf:CallF):SX:=(sSeq (sAssign (eVar "quotes") (tAttr (eVar "self") "quotes")) (b_55_5 cf))
theorem call_55 (k:Nat) (vs:List AV) (H:Hp):callF (k+1) 55 vs H=runV ["self","quotes","escape","line_starts","start","end","nests"] (none) (b_55 (callF k)) vs H:=by kernel_rfl
noncomputable def b_69 (cf:CallF):SX:=(sSeq (sRet (eAll [(eCmp .NotEq (eVar "wanted") (eList [])),(eCmp .Eq (eSliceV "codes" (some (eVar "at")) (some (eBin .Add (eVar "at") (eBlt "len" [(eVar "wanted")])))) (eVar "wanted"))])) sNil)
theorem call_69 (k:Nat) (vs:List AV) (H:Hp):callF (k+1) 69 vs H=runV ["codes","wanted","at"] (none) (b_69 (callF k)) vs H:=by kernel_rfl
noncomputable def b_76_1 (cf:CallF):SX:=(sSeq (sIf (eFun cf 69 [(eVar "codes"),(eVar "wanted"),(eVar "at")]) (sSeq (sRet (eBool true)) sNil) sNil) sNil)
noncomputable def b_76 (cf:CallF):SX:=(sSeq (sFor (iList (eAttr (eVar "signs") "line_starts")) (tVar "wanted") (b_76_1 cf)) (sSeq (sRet (eBool false)) sNil))
theorem call_76 (k:Nat) (vs:List AV) (H:Hp):callF (k+1) 76 vs H=runV ["signs","codes","at"] (none) (b_76 (callF k)) vs H:=by kernel_rfl
noncomputable def b_90_1 (cf:CallF):SX:=(sSeq (sAssign (eInt 0) (tAttr (eVar "self") "begun")) (sSeq (sAssign (eList []) (tAttr (eVar "self") "spans")) sNil))
noncomputable def b_90_2 (cf:CallF):SX:=(sSeq (sAssign (eInt 0) (tAttr (eVar "self") "at")) (b_90_1 cf))
noncomputable def b_90_3 (cf:CallF):SX:=(sSeq (sAssign (eVar "state") (tAttr (eVar "self") "state")) (b_90_2 cf))
noncomputable def b_90_4 (cf:CallF):SX:=(sSeq (sAssign (eVar "codes") (tAttr (eVar "self") "codes")) (b_90_3 cf))
noncomputable def b_90 (cf:CallF):SX:=(sSeq (sAssign (eVar "signs") (tAttr (eVar "self") "signs")) (b_90_4 cf))
theorem call_90 (k:Nat) (vs:List AV) (H:Hp):callF (k+1) 90 vs H=runV ["self","signs","codes","state"] (none) (b_90 (callF k)) vs H:=by kernel_rfl
noncomputable def b_97_1 (cf:CallF):SX:=(sSeq (sExpr (eMeth cf (eAttr (eVar "self") "spans") "append" [(eTup [(eAttr (eVar "self") "begun"),(eAttr (eVar "self") "at"),(eIdx (eAttr (eVar "self") "state") (eInt 0))])])) sNil)
noncomputable def b_97 (cf:CallF):SX:=(sSeq (sIf (eAll [(eCmp .NotEq (eIdx (eAttr (eVar "self") "state") (eInt 0)) (eInt 0)),(eCmp .Gt (eAttr (eVar "self") "at") (eAttr (eVar "self") "begun"))]) (b_97_1 cf) sNil) sNil)
theorem call_97 (k:Nat) (vs:List AV) (H:Hp):callF (k+1) 97 vs H=runV ["self"] (none) (b_97 (callF k)) vs H:=by kernel_rfl
noncomputable def b_104_1 (cf:CallF):SX:=(sSeq (sAssign (eVar "state") (tAttr (eVar "self") "state")) sNil)
noncomputable def b_104 (cf:CallF):SX:=(sSeq (sAssign (eAttr (eVar "self") "at") (tAttr (eVar "self") "begun")) (b_104_1 cf))
theorem call_104 (k:Nat) (vs:List AV) (H:Hp):callF (k+1) 104 vs H=runV ["self","state"] (none) (b_104 (callF k)) vs H:=by kernel_rfl
noncomputable def b_111_1 (cf:CallF):SX:=(sSeq (sAssign (eBin .Add (eAttr (eVar "self") "at") (eInt 2)) (tAttr (eVar "self") "at")) sNil)
noncomputable def b_111_2 (cf:CallF):SX:=(sSeq (sAssign (eBlt "len" [(eVar "codes")]) (tAttr (eVar "self") "at")) sNil)
noncomputable def b_111_3 (cf:CallF):SX:=(sSeq (sExpr (eMeth cf (eAttr (eVar "self") "spans") "append" [(eTup [(eAttr (eVar "self") "at"),(eBlt "len" [(eVar "codes")]),(eInt 2)])])) (b_111_2 cf))
noncomputable def b_111_4 (cf:CallF):SX:=(sSeq (sAssign (eBin .Add (eAttr (eVar "self") "at") (eBlt "len" [(eAttr (eVar "signs") "start")])) (tAttr (eVar "self") "at")) sNil)
noncomputable def b_111_5 (cf:CallF):SX:=(sSeq (sExpr (eMeth cf (eVar "self") "enter" [(eTup [(eInt 2),(eInt 1)])])) (b_111_4 cf))
noncomputable def b_111_6 (cf:CallF):SX:=(sSeq (sAssign (eBin .Add (eAttr (eVar "self") "at") (eInt 1)) (tAttr (eVar "self") "at")) sNil)
noncomputable def b_111_7 (cf:CallF):SX:=(sSeq (sExpr (eMeth cf (eVar "self") "enter" [(eTup [(eInt 1),(eIdx (eVar "codes") (eAttr (eVar "self") "at"))])])) (b_111_6 cf))
noncomputable def b_111_8 (cf:CallF):SX:=(sSeq (sAssign (eBin .Add (eAttr (eVar "self") "at") (eInt 1)) (tAttr (eVar "self") "at")) sNil)
noncomputable def b_111_9 (cf:CallF):SX:=(sSeq (sIf (eCmp .In (eIdx (eVar "codes") (eAttr (eVar "self") "at")) (eAttr (eVar "signs") "quotes")) (b_111_7 cf) (b_111_8 cf)) sNil)
noncomputable def b_111_10 (cf:CallF):SX:=(sSeq (sIf (eFun cf 69 [(eVar "codes"),(eAttr (eVar "signs") "start"),(eAttr (eVar "self") "at")]) (b_111_5 cf) (b_111_9 cf)) sNil)
noncomputable def b_111_11 (cf:CallF):SX:=(sSeq (sIf (eFun cf 76 [(eVar "signs"),(eVar "codes"),(eAttr (eVar "self") "at")]) (b_111_3 cf) (b_111_10 cf)) sNil)
noncomputable def b_111_12 (cf:CallF):SX:=(sSeq (sIf (eCmp .Eq (eIdx (eVar "codes") (eAttr (eVar "self") "at")) (eAttr (eVar "signs") "escape")) (b_111_1 cf) (b_111_11 cf)) sNil)
noncomputable def b_111 (cf:CallF):SX:=(sSeq (sSwapV (eTup [(eAttr (eVar "self") "signs"),(eAttr (eVar "self") "codes")]) ["signs","codes"]) (b_111_12 cf))
theorem call_111 (k:Nat) (vs:List AV) (H:Hp):callF (k+1) 111 vs H=runV ["self"] (none) (b_111 (callF k)) vs H:=by kernel_rfl
noncomputable def b_118_1 (cf:CallF):SX:=(sSeq (sAssign (eBin .Add (eAttr (eVar "self") "at") (eInt 2)) (tAttr (eVar "self") "at")) (sSeq sRet0 sNil))
noncomputable def b_118_2 (cf:CallF):SX:=(sSeq (sAssign (eTup [(eInt 0),(eInt 0)]) (tAttr (eVar "self") "state")) sNil)
noncomputable def b_118_3 (cf:CallF):SX:=(sSeq (sExpr (eMeth cf (eVar "self") "leave" [])) (b_118_2 cf))
noncomputable def b_118_4 (cf:CallF):SX:=(sSeq (sIf (eCmp .Eq (eVar "code") (eIdx (eAttr (eVar "self") "state") (eInt 1))) (b_118_3 cf) sNil) sNil)
noncomputable def b_118_5 (cf:CallF):SX:=(sSeq (sAssign (eBin .Add (eAttr (eVar "self") "at") (eInt 1)) (tAttr (eVar "self") "at")) (b_118_4 cf))
noncomputable def b_118_6 (cf:CallF):SX:=(sSeq (sIf (eCmp .Eq (eVar "code") (eAttr (eAttr (eVar "self") "signs") "escape")) (b_118_1 cf) sNil) (b_118_5 cf))
noncomputable def b_118 (cf:CallF):SX:=(sSeq (sAssign (eIdx (eAttr (eVar "self") "codes") (eAttr (eVar "self") "at")) (tVar "code")) (b_118_6 cf))
theorem call_118 (k:Nat) (vs:List AV) (H:Hp):callF (k+1) 118 vs H=runV ["self"] (none) (b_118 (callF k)) vs H:=by kernel_rfl
noncomputable def b_125_1 (cf:CallF):SX:=(sSeq (sAssign (eTup [(eInt 2),(eBin .Sub (eVar "depth") (eInt 1))]) (tAttr (eVar "self") "state")) sNil)
noncomputable def b_125_2 (cf:CallF):SX:=(sSeq (sAssign (eTup [(eInt 0),(eInt 0)]) (tAttr (eVar "self") "state")) sNil)
noncomputable def b_125_3 (cf:CallF):SX:=(sSeq (sExpr (eMeth cf (eVar "self") "leave" [])) (b_125_2 cf))
noncomputable def b_125_4 (cf:CallF):SX:=(sSeq (sIf (eCmp .Gt (eVar "depth") (eInt 1)) (b_125_1 cf) (b_125_3 cf)) sNil)
noncomputable def b_125_5 (cf:CallF):SX:=(sSeq (sAssign (eBin .Add (eAttr (eVar "self") "at") (eBlt "len" [(eAttr (eVar "signs") "end")])) (tAttr (eVar "self") "at")) (b_125_4 cf))
noncomputable def b_125_6 (cf:CallF):SX:=(sSeq (sAssign (eTup [(eInt 2),(eBin .Add (eVar "depth") (eInt 1))]) (tAttr (eVar "self") "state")) sNil)
noncomputable def b_125_7 (cf:CallF):SX:=(sSeq (sAssign (eBin .Add (eAttr (eVar "self") "at") (eBlt "len" [(eAttr (eVar "signs") "start")])) (tAttr (eVar "self") "at")) (b_125_6 cf))
noncomputable def b_125_8 (cf:CallF):SX:=(sSeq (sAssign (eBin .Add (eAttr (eVar "self") "at") (eInt 1)) (tAttr (eVar "self") "at")) sNil)
noncomputable def b_125_9 (cf:CallF):SX:=(sSeq (sIf (eAll [(eAttr (eVar "signs") "nests"),(eFun cf 69 [(eAttr (eVar "self") "codes"),(eAttr (eVar "signs") "start"),(eAttr (eVar "self") "at")])]) (b_125_7 cf) (b_125_8 cf)) sNil)
noncomputable def b_125_10 (cf:CallF):SX:=(sSeq (sIf (eFun cf 69 [(eAttr (eVar "self") "codes"),(eAttr (eVar "signs") "end"),(eAttr (eVar "self") "at")]) (b_125_5 cf) (b_125_9 cf)) sNil)
noncomputable def b_125 (cf:CallF):SX:=(sSeq (sSwapV (eTup [(eAttr (eVar "self") "signs"),(eIdx (eAttr (eVar "self") "state") (eInt 1))]) ["signs","depth"]) (b_125_10 cf))
theorem call_125 (k:Nat) (vs:List AV) (H:Hp):callF (k+1) 125 vs H=runV ["self"] (none) (b_125 (callF k)) vs H:=by kernel_rfl
noncomputable def b_132_1 (cf:CallF):SX:=(sSeq (sIf (eCmp .Eq (eIdx (eAttr (eVar "self") "state") (eInt 0)) (eInt 1)) (sSeq (sExpr (eMeth cf (eVar "self") "in_string" [])) sNil) (sSeq (sExpr (eMeth cf (eVar "self") "in_comment" [])) sNil)) sNil)
noncomputable def b_132_2 (cf:CallF):SX:=(sSeq (sIf (eCmp .Eq (eIdx (eAttr (eVar "self") "state") (eInt 0)) (eInt 0)) (sSeq (sExpr (eMeth cf (eVar "self") "in_code" [])) sNil) (b_132_1 cf)) sNil)
noncomputable def b_132_3 (cf:CallF):SX:=(sSeq (sAssign (eBlt "len" [(eAttr (eVar "self") "codes")]) (tAttr (eVar "self") "at")) (sSeq (sExpr (eMeth cf (eVar "self") "leave" [])) sNil))
noncomputable def b_132 (cf:CallF):SX:=(sSeq (sWhile (eCmp .Lt (eAttr (eVar "self") "at") (eBlt "len" [(eAttr (eVar "self") "codes")])) (b_132_2 cf)) (b_132_3 cf))
theorem call_132 (k:Nat) (vs:List AV) (H:Hp):callF (k+1) 132 vs H=runV ["self"] (none) (b_132 (callF k)) vs H:=by kernel_rfl
noncomputable def b_146_1 (cf:CallF):SX:=(sSeq (sRet (eTup [(eAttr (eVar "scan") "state"),(eAttr (eVar "scan") "spans")])) sNil)
noncomputable def b_146_2 (cf:CallF):SX:=(sSeq (sExpr (eMeth cf (eVar "scan") "go" [])) (b_146_1 cf))
noncomputable def b_146 (cf:CallF):SX:=(sSeq (sAssign (eNew cf 135 90 [(eVar "signs"),(eVar "codes"),(eVar "state")]) (tVar "scan")) (b_146_2 cf))
theorem call_146 (k:Nat) (vs:List AV) (H:Hp):callF (k+1) 146 vs H=runV ["signs","codes","state"] (none) (b_146 (callF k)) vs H:=by kernel_rfl
noncomputable def b_160_1 (cf:CallF):SX:=(sSeq (sExpr (eMeth cf (eAttr (eVar "self") "states") "append" [(eIdx (eFun cf 146 [(eVar "signs"),(eVar "codes"),(eIdx (eAttr (eVar "self") "states") (eNeg (eInt 1)))]) (eInt 0))])) sNil)
noncomputable def b_160_2 (cf:CallF):SX:=(sSeq (sFor (iList (eVar "lines")) (tVar "codes") (b_160_1 cf)) sNil)
noncomputable def b_160_3 (cf:CallF):SX:=(sSeq (sAssign (eList [(eTup [(eInt 0),(eInt 0)])]) (tAttr (eVar "self") "states")) (b_160_2 cf))
noncomputable def b_160 (cf:CallF):SX:=(sSeq (sAssign (eVar "signs") (tAttr (eVar "self") "signs")) (b_160_3 cf))
theorem call_160 (k:Nat) (vs:List AV) (H:Hp):callF (k+1) 160 vs H=runV ["self","signs","lines"] (none) (b_160 (callF k)) vs H:=by kernel_rfl
noncomputable def b_167_1 (cf:CallF):SX:=(sSeq (sAssign (eBin .Add (eVar "found") (eSliceV "old" (some (eBin .Add (eBin .Add (eBin .Add (eVar "first") (eVar "old_many")) (eVar "behind")) (eInt 1))) none)) (tAttr (eVar "self") "states")) (sSeq (sRet (eVar "at")) sNil))
noncomputable def b_167_2 (cf:CallF):SX:=(sSeq (sExpr (eMeth cf (eVar "found") "append" [(eIdx (eFun cf 146 [(eAttr (eVar "self") "signs"),(eIdx (eVar "lines") (eVar "at")),(eIdx (eVar "found") (eNeg (eInt 1)))]) (eInt 0))])) sNil)
noncomputable def b_167_3 (cf:CallF):SX:=(sSeq (sAssign (eBin .Add (eVar "at") (eInt 1)) (tVar "at")) sNil)
noncomputable def b_167_4 (cf:CallF):SX:=(sSeq (sIf (eCmp .Lt (eVar "at") (eBlt "len" [(eVar "lines")])) (b_167_2 cf) sNil) (b_167_3 cf))
noncomputable def b_167_5 (cf:CallF):SX:=(sSeq (sIf (eAll [(eCmp .GtE (eVar "behind") (eInt 0)),(eCmp .Eq (eIdx (eVar "found") (eNeg (eInt 1))) (eIdx (eVar "old") (eBin .Add (eBin .Add (eVar "first") (eVar "old_many")) (eVar "behind"))))]) (b_167_1 cf) sNil) (b_167_4 cf))
noncomputable def b_167_6 (cf:CallF):SX:=(sSeq (sAssign (eBin .Sub (eBin .Sub (eVar "at") (eVar "first")) (eVar "new_many")) (tVar "behind")) (b_167_5 cf))
noncomputable def b_167_7 (cf:CallF):SX:=(sSeq (sAssign (eVar "found") (tAttr (eVar "self") "states")) (sSeq (sRet (eBlt "len" [(eVar "lines")])) sNil))
noncomputable def b_167_8 (cf:CallF):SX:=(sSeq (sWhile (eCmp .LtE (eVar "at") (eBlt "len" [(eVar "lines")])) (b_167_6 cf)) (b_167_7 cf))
noncomputable def b_167 (cf:CallF):SX:=(sSeq (sSwapV (eTup [(eAttr (eVar "self") "states"),(eSlice (eAttr (eVar "self") "states") none (some (eBin .Add (eVar "first") (eInt 1)))),(eVar "first")]) ["old","found","at"]) (b_167_8 cf))
theorem call_167 (k:Nat) (vs:List AV) (H:Hp):callF (k+1) 167 vs H=runV ["self","lines","first","old_many","new_many"] (none) (b_167 (callF k)) vs H:=by kernel_rfl
noncomputable def b_174 (cf:CallF):SX:=(sSeq (sRet (eIdx (eAttr (eVar "self") "states") (eVar "line"))) sNil)
theorem call_174 (k:Nat) (vs:List AV) (H:Hp):callF (k+1) 174 vs H=runV ["self","line"] (none) (b_174 (callF k)) vs H:=by kernel_rfl
noncomputable def b_195_1 (cf:CallF):SX:=(sSeq (sAssign (eVar "is_lax") (tAttr (eVar "self") "is_lax")) sNil)
noncomputable def b_195_2 (cf:CallF):SX:=(sSeq (sAssign (eVar "way") (tAttr (eVar "self") "way")) (b_195_1 cf))
noncomputable def b_195_3 (cf:CallF):SX:=(sSeq (sAssign (eVar "face") (tAttr (eVar "self") "face")) (b_195_2 cf))
noncomputable def b_195 (cf:CallF):SX:=(sSeq (sAssign (eVar "group") (tAttr (eVar "self") "group")) (b_195_3 cf))
theorem call_195 (k:Nat) (vs:List AV) (H:Hp):callF (k+1) 195 vs H=runV ["self","group","face","way","is_lax"] (none) (b_195 (callF k)) vs H:=by kernel_rfl
noncomputable def b_216_1 (cf:CallF):SX:=(sSeq (sAssign (eVar "anchored") (tAttr (eVar "self") "anchored")) sNil)
noncomputable def b_216_2 (cf:CallF):SX:=(sSeq (sAssign (eVar "marks") (tAttr (eVar "self") "marks")) (b_216_1 cf))
noncomputable def b_216 (cf:CallF):SX:=(sSeq (sAssign (eVar "matcher") (tAttr (eVar "self") "matcher")) (b_216_2 cf))
theorem call_216 (k:Nat) (vs:List AV) (H:Hp):callF (k+1) 216 vs H=runV ["self","matcher","marks","anchored"] (none) (b_216 (callF k)) vs H:=by kernel_rfl
noncomputable def b_228_1 (cf:CallF):SX:=(sSeq (sAssign (eList [(eVar "face")]) (tIdx (eVar "faces") (eVar "at"))) sNil)
noncomputable def b_228_2 (cf:CallF):SX:=(sSeq (sAssign (eBin .Add (eList [(eVar "face")]) (eIdx (eVar "faces") (eVar "at"))) (tIdx (eVar "faces") (eVar "at"))) sNil)
noncomputable def b_228_3 (cf:CallF):SX:=(sSeq (sAssign (eBin .Add (eIdx (eVar "faces") (eVar "at")) (eList [(eVar "face")])) (tIdx (eVar "faces") (eVar "at"))) sNil)
noncomputable def b_228_4 (cf:CallF):SX:=(sSeq (sIf (eAll [(eCmp .Eq (eVar "way") (eInt 4)),(eCmp .NotIn (eVar "face") (eIdx (eVar "faces") (eVar "at")))]) (b_228_3 cf) sNil) sNil)
noncomputable def b_228_5 (cf:CallF):SX:=(sSeq (sIf (eAll [(eCmp .Eq (eVar "way") (eInt 3)),(eCmp .NotIn (eVar "face") (eIdx (eVar "faces") (eVar "at")))]) (b_228_2 cf) (b_228_4 cf)) sNil)
noncomputable def b_228_6 (cf:CallF):SX:=(sSeq (sIf (eAny [(eCmp .In (eVar "way") (eTup [(eInt 0),(eInt 1)])),(eAll [(eCmp .Eq (eVar "way") (eInt 2)),(eCmp .Eq (eIdx (eVar "faces") (eVar "at")) (eList []))])]) (b_228_1 cf) (b_228_5 cf)) sNil)
noncomputable def b_228_7 (cf:CallF):SX:=(sSeq (sFor (iRange [(eVar "start"),(eVar "end")]) (tVar "at") (b_228_6 cf)) sNil)
noncomputable def b_228 (cf:CallF):SX:=(sSeq (sIf (eAll [(eCmp .Eq (eVar "way") (eInt 0)),(eCmp .NotEq noE (eList []))]) (sSeq sRet0 sNil) sNil) (b_228_7 cf))
theorem call_228 (k:Nat) (vs:List AV) (H:Hp):callF (k+1) 228 vs H=runV ["faces","start","end","face","way"] (none) (b_228 (callF k)) vs H:=by kernel_rfl
noncomputable def b_235_1 (cf:CallF):SX:=(sSeq (sIf (eNot (eAttr (eVar "mark") "is_lax")) (sSeq noS sNil) sNil) sNil)
noncomputable def b_235_2 (cf:CallF):SX:=(sSeq (sExpr (eFun cf 228 [(eVar "faces"),(eIdx (eVar "span") (eInt 0)),(eIdx (eVar "span") (eInt 1)),(eAttr (eVar "mark") "face"),(eAttr (eVar "mark") "way")])) sNil)
noncomputable def b_235_3 (cf:CallF):SX:=(sSeq (sIf (eCmp .Is (eVar "span") eNone) (b_235_1 cf) (b_235_2 cf)) sNil)
noncomputable def b_235_4 (cf:CallF):SX:=(sSeq (sAssign (eIf (eCmp .Lt (eAttr (eVar "mark") "group") (eBlt "len" [(eVar "groups")])) (eIdx (eVar "groups") (eAttr (eVar "mark") "group")) eNone) (tVar "span")) (b_235_3 cf))
noncomputable def b_235 (cf:CallF):SX:=(sSeq (sFor (iList (eVar "marks")) (tVar "mark") (b_235_4 cf)) sNil)
theorem call_235 (k:Nat) (vs:List AV) (H:Hp):callF (k+1) 235 vs H=runV ["faces","groups","marks"] (none) (b_235 (callF k)) vs H:=by kernel_rfl
noncomputable def b_242_1 (cf:CallF):SX:=(sSeq (sExpr (eFun cf 242 [(eVar "faces"),(eVar "codes"),(eVar "inner"),(eIdx (eIdx (eVar "groups") (eInt 0)) (eInt 1))])) sNil)
noncomputable def b_242_2 (cf:CallF):SX:=(sSeq (sFor (iList (eAttr (eVar "rule") "anchored")) (tVar "inner") (b_242_1 cf)) sNil)
noncomputable def b_242_3 (cf:CallF):SX:=(sSeq (sAssign (eIf (eCmp .Gt (eIdx (eIdx (eVar "groups") (eInt 0)) (eInt 1)) (eIdx (eIdx (eVar "groups") (eInt 0)) (eInt 0))) (eIdx (eIdx (eVar "groups") (eInt 0)) (eInt 1)) (eBin .Add (eIdx (eIdx (eVar "groups") (eInt 0)) (eInt 1)) (eInt 1))) (tVar "at")) (b_242_2 cf))
noncomputable def b_242_4 (cf:CallF):SX:=(sSeq (sExpr (eFun cf 235 [(eVar "faces"),(eVar "groups"),(eAttr (eVar "rule") "marks")])) (b_242_3 cf))
noncomputable def b_242_5 (cf:CallF):SX:=(sSeq (sIf (eCmp .Is (eVar "groups") eNone) (sSeq sRet0 sNil) sNil) (b_242_4 cf))
noncomputable def b_242_6 (cf:CallF):SX:=(sSeq (sAssign (eMeth cf (eAttr (eVar "rule") "matcher") "search" [(eVar "codes"),(eVar "at"),(eBlt "len" [(eVar "codes")])]) (tVar "groups")) (b_242_5 cf))
noncomputable def b_242_7 (cf:CallF):SX:=(sSeq (sWhile (eCmp .LtE (eVar "at") (eBlt "len" [(eVar "codes")])) (b_242_6 cf)) sNil)
noncomputable def b_242 (cf:CallF):SX:=(sSeq (sAssign (eVar "start") (tVar "at")) (b_242_7 cf))
theorem call_242 (k:Nat) (vs:List AV) (H:Hp):callF (k+1) 242 vs H=runV ["faces","codes","rule","start"] (none) (b_242 (callF k)) vs H:=by kernel_rfl
noncomputable def b_247_1 (cf:CallF):SX:=(sSeq (sExpr (eFun cf 228 [(eVar "faces"),(eVar "start"),(eVar "end"),(eIf (eCmp .Eq (eVar "sort") (eInt 2)) (eVar "comment_face") (eVar "string_face")),(eInt 1)])) sNil)
noncomputable def b_247_2 (cf:CallF):SX:=(sSeq (sExpr (eFun cf 242 [(eVar "faces"),(eVar "codes"),(eVar "rule"),(eInt 0)])) sNil)
noncomputable def b_247_3 (cf:CallF):SX:=(sSeq (sFor (iList (eVar "rules")) (tVar "rule") (b_247_2 cf)) (sSeq (sRet (eVar "faces")) sNil))
noncomputable def b_247_4 (cf:CallF):SX:=(sSeq (sFor (iList (eIdx (eFun cf 146 [(eVar "signs"),(eVar "codes"),(eVar "state")]) (eInt 1))) (tTup [(tVar "start"),(tVar "end"),(tVar "sort")]) (b_247_1 cf)) (b_247_3 cf))
noncomputable def b_247 (cf:CallF):SX:=(sSeq (sAssignV "faces" (eMapV (fun ρ=>compOk scp0 ocs0 "code" && scp0.names.all (fun y=>!(y.2 == .free) || (ρ y.1).isSome)) (inner scp0 ocs0) "code" (iList (eVar "codes")) (eList []))) (b_247_4 cf))
theorem call_247 (k:Nat) (vs:List AV) (H:Hp):callF (k+1) 247 vs H=runV ["signs","rules","codes","state","string_face","comment_face"] (none) (b_247 (callF k)) vs H:=by kernel_rfl
noncomputable def b_259_1 (cf:CallF):SX:=(sSeq (sAssign (eInt 0) (tAttr (eVar "self") "looked")) sNil)
noncomputable def b_259_2 (cf:CallF):SX:=(sSeq (sAssign (eMapV (fun ρ=>compOk scp1 ocs1 "codes" && scp1.names.all (fun y=>!(y.2 == .free) || (ρ y.1).isSome)) (inner scp1 ocs1) "codes" (iList (eVar "lines")) eNone) (tAttr (eVar "self") "faces")) (b_259_1 cf))
noncomputable def b_259_3 (cf:CallF):SX:=(sSeq (sAssign (eNew cf 177 160 [(eVar "signs"),(eVar "lines")]) (tAttr (eVar "self") "states")) (b_259_2 cf))
noncomputable def b_259_4 (cf:CallF):SX:=(sSeq (sAssign (eVar "comment_face") (tAttr (eVar "self") "comment_face")) (b_259_3 cf))
noncomputable def b_259_5 (cf:CallF):SX:=(sSeq (sAssign (eVar "string_face") (tAttr (eVar "self") "string_face")) (b_259_4 cf))
noncomputable def b_259_6 (cf:CallF):SX:=(sSeq (sAssign (eVar "rules") (tAttr (eVar "self") "rules")) (b_259_5 cf))
noncomputable def b_259 (cf:CallF):SX:=(sSeq (sAssign (eVar "signs") (tAttr (eVar "self") "signs")) (b_259_6 cf))
theorem call_259 (k:Nat) (vs:List AV) (H:Hp):callF (k+1) 259 vs H=runV ["self","signs","rules","string_face","comment_face","lines"] (none) (b_259 (callF k)) vs H:=by kernel_rfl
noncomputable def b_266_1 (cf:CallF):SX:=(sSeq (sAssign (eVar "own") (tIdx (eAttr (eVar "self") "faces") (eVar "line"))) sNil)
noncomputable def b_266_2 (cf:CallF):SX:=(sSeq (sAssign (eFun cf 247 [(eAttr (eVar "self") "signs"),(eAttr (eVar "self") "rules"),(eIdx (eVar "lines") (eVar "line")),(eVar "state"),(eAttr (eVar "self") "string_face"),(eAttr (eVar "self") "comment_face")]) (tVar "own")) (b_266_1 cf))
noncomputable def b_266_3 (cf:CallF):SX:=(sSeq (sAssign (eMeth cf (eAttr (eVar "self") "states") "begin_of" [(eVar "line")]) (tVar "state")) (b_266_2 cf))
noncomputable def b_266_4 (cf:CallF):SX:=(sSeq (sAssign (eBin .Add (eAttr (eVar "self") "looked") (eInt 1)) (tAttr (eVar "self") "looked")) (b_266_3 cf))
noncomputable def b_266_5 (cf:CallF):SX:=(sSeq (sRet (eIdx (eAttr (eVar "self") "faces") (eVar "line"))) sNil)
noncomputable def b_266 (cf:CallF):SX:=(sSeq (sIf (eCmp .Is (eIdx (eAttr (eVar "self") "faces") (eVar "line")) eNone) (b_266_4 cf) sNil) (b_266_5 cf))
theorem call_266 (k:Nat) (vs:List AV) (H:Hp):callF (k+1) 266 vs H=runV ["self","lines","line"] (none) (b_266 (callF k)) vs H:=by kernel_rfl
noncomputable def b_271 (cf:CallF):SX:=(sSeq (sRet (eMapV (fun ρ=>compOk scp2 ocs2 "line" && scp2.names.all (fun y=>!(y.2 == .free) || (ρ y.1).isSome)) (inner scp2 ocs2) "line" (iRange [(eVar "first"),(eVar "last")]) (eMeth cf (eVar "self") "look" [(eVar "lines"),(eVar "line")]))) sNil)
theorem call_271 (k:Nat) (vs:List AV) (H:Hp):callF (k+1) 271 vs H=runV ["self","lines","first","last"] (none) (b_271 (callF k)) vs H:=by kernel_rfl
noncomputable def b_278_1 (cf:CallF):SX:=(sSeq (sAssign eNone (tIdx (eAttr (eVar "self") "faces") (eVar "line"))) sNil)
noncomputable def b_278_2 (cf:CallF):SX:=(sSeq (sFor (iRange [(eBin .Add (eVar "first") (eVar "new_many")),(eVar "end")]) (tVar "line") (b_278_1 cf)) sNil)
noncomputable def b_278_3 (cf:CallF):SX:=(sSeq (sAssign (eBin .Add (eBin .Add (eSlice (eAttr (eVar "self") "faces") none (some (eVar "first"))) (eBin .Mult (eList [eNone]) (eVar "new_many"))) (eVar "kept")) (tAttr (eVar "self") "faces")) (b_278_2 cf))
noncomputable def b_278_4 (cf:CallF):SX:=(sSeq (sAssign (eSlice (eAttr (eVar "self") "faces") (some (eBin .Add (eVar "first") (eVar "old_many"))) none) (tVar "kept")) (b_278_3 cf))
noncomputable def b_278 (cf:CallF):SX:=(sSeq (sAssign (eMeth cf (eAttr (eVar "self") "states") "changed" [(eVar "lines"),(eVar "first"),(eVar "old_many"),(eVar "new_many")]) (tVar "end")) (b_278_4 cf))
theorem call_278 (k:Nat) (vs:List AV) (H:Hp):callF (k+1) 278 vs H=runV ["self","lines","first","old_many","new_many"] (none) (b_278 (callF k)) vs H:=by kernel_rfl
noncomputable def b_299 (cf:CallF):SX:=(sSeq (sRet (eAny [(eCmp2 .LtE .LtE (eInt 48) (eVar "code") (eInt 57)),(eCmp2 .LtE .LtE (eInt 65) (eVar "code") (eInt 90)),(eCmp .Eq (eVar "code") (eInt 95)),(eCmp2 .LtE .LtE (eInt 97) (eVar "code") (eInt 122)),(eCmp .GtE (eVar "code") (eInt 128))])) sNil)
theorem call_299 (k:Nat) (vs:List AV) (H:Hp):callF (k+1) 299 vs H=runV ["code"] (none) (b_299 (callF k)) vs H:=by kernel_rfl
noncomputable def b_313 (cf:CallF):SX:=(sSeq (sAssign (eVar "words") (tAttr (eVar "self") "words")) sNil)
theorem call_313 (k:Nat) (vs:List AV) (H:Hp):callF (k+1) 313 vs H=runV ["self","words"] (none) (b_313 (callF k)) vs H:=by kernel_rfl
noncomputable def b_320_1 (cf:CallF):SX:=(sSeq (sAssign (eBin .Add (eVar "last") (eInt 1)) (tVar "last")) sNil)
noncomputable def b_320_2 (cf:CallF):SX:=(sSeq (sRet (eList [(eTup [(eVar "at"),(eVar "last")])])) sNil)
noncomputable def b_320_3 (cf:CallF):SX:=(sSeq (sIf (eCmp .In (eSliceV "codes" (some (eVar "at")) (some (eVar "last"))) (eAttr (eVar "self") "words")) (b_320_2 cf) sNil) (sSeq (sAssign (eVar "last") (tVar "at")) sNil))
noncomputable def b_320_4 (cf:CallF):SX:=(sSeq (sWhile (eAll [(eCmp .Lt (eVar "last") (eVar "end")),(eFun cf 299 [(eIdx (eVar "codes") (eVar "last"))])]) (b_320_1 cf)) (b_320_3 cf))
noncomputable def b_320_5 (cf:CallF):SX:=(sSeq (sAssign (eVar "at") (tVar "last")) (b_320_4 cf))
noncomputable def b_320_6 (cf:CallF):SX:=(sSeq (sAssign (eBin .Add (eVar "at") (eInt 1)) (tVar "at")) sNil)
noncomputable def b_320_7 (cf:CallF):SX:=(sSeq (sIf (eAll [(eFun cf 299 [(eIdx (eVar "codes") (eVar "at"))]),(eAny [(eCmp .Eq (eVar "at") (eInt 0)),(eNot (eFun cf 299 [(eIdx (eVar "codes") (eBin .Sub (eVar "at") (eInt 1)))]))])]) (b_320_5 cf) (b_320_6 cf)) sNil)
noncomputable def b_320_8 (cf:CallF):SX:=(sSeq (sWhile (eCmp .Lt (eVar "at") (eVar "end")) (b_320_7 cf)) (sSeq (sRet eNone) sNil))
noncomputable def b_320 (cf:CallF):SX:=(sSeq (sAssign (eVar "start") (tVar "at")) (b_320_8 cf))
theorem call_320 (k:Nat) (vs:List AV) (H:Hp):callF (k+1) 320 vs H=runV ["self","codes","start","end"] (none) (b_320 (callF k)) vs H:=by kernel_rfl
noncomputable def b_341_1 (cf:CallF):SX:=(sSeq (sAssign (eBin .Add (eBlt "len" [(eVar "codes")]) (eVar "room")) (tAttr (eVar "self") "gap_end")) sNil)
noncomputable def b_341_2 (cf:CallF):SX:=(sSeq (sAssign (eBlt "len" [(eVar "codes")]) (tAttr (eVar "self") "gap_start")) (b_341_1 cf))
noncomputable def b_341_3 (cf:CallF):SX:=(sSeq (sAssign (eBin .Add (eBlt "list" [(eVar "codes")]) (eBin .Mult (eList [(eInt 0)]) (eVar "room"))) (tAttr (eVar "self") "cells")) (b_341_2 cf))
noncomputable def b_341 (cf:CallF):SX:=(sSeq (sAssign (eVar "room") (tAttr (eVar "self") "room")) (b_341_3 cf))
theorem call_341 (k:Nat) (vs:List AV) (H:Hp):callF (k+1) 341 vs H=runV ["self","codes","room"] (none) (b_341 (callF k)) vs H:=by kernel_rfl
noncomputable def b_348 (cf:CallF):SX:=(sSeq (sRet (eBin .Add (eBin .Sub (eBlt "len" [(eAttr (eVar "self") "cells")]) (eAttr (eVar "self") "gap_end")) (eAttr (eVar "self") "gap_start"))) sNil)
theorem call_348 (k:Nat) (vs:List AV) (H:Hp):callF (k+1) 348 vs H=runV ["self"] (none) (b_348 (callF k)) vs H:=by kernel_rfl
noncomputable def b_355_1 (cf:CallF):SX:=(sSeq (sRet (eIdx (eAttr (eVar "self") "cells") (eVar "at"))) sNil)
noncomputable def b_355_2 (cf:CallF):SX:=(sSeq (sRet (eIdx (eAttr (eVar "self") "cells") (eBin .Add (eBin .Sub (eVar "at") (eAttr (eVar "self") "gap_start")) (eAttr (eVar "self") "gap_end")))) sNil)
noncomputable def b_355 (cf:CallF):SX:=(sSeq (sIf (eCmp .Lt (eVar "at") (eAttr (eVar "self") "gap_start")) (b_355_1 cf) sNil) (b_355_2 cf))
noncomputable def b_362_1 (cf:CallF):SX:=(sSeq (sRet (eSlice (eAttr (eVar "self") "cells") (some (eVar "start")) (some (eVar "end")))) sNil)
noncomputable def b_362_2 (cf:CallF):SX:=(sSeq (sRet (eSlice (eAttr (eVar "self") "cells") (some (eBin .Add (eVar "start") (eVar "shift"))) (some (eBin .Add (eVar "end") (eVar "shift"))))) sNil)
noncomputable def b_362_3 (cf:CallF):SX:=(sSeq (sRet (eBin .Add (eSlice (eAttr (eVar "self") "cells") (some (eVar "start")) (some (eAttr (eVar "self") "gap_start"))) (eSlice (eAttr (eVar "self") "cells") (some (eAttr (eVar "self") "gap_end")) (some (eBin .Add (eVar "end") (eVar "shift")))))) sNil)
noncomputable def b_362_4 (cf:CallF):SX:=(sSeq (sIf (eCmp .GtE (eVar "start") (eAttr (eVar "self") "gap_start")) (b_362_2 cf) sNil) (b_362_3 cf))
noncomputable def b_362_5 (cf:CallF):SX:=(sSeq (sIf (eCmp .LtE (eVar "end") (eAttr (eVar "self") "gap_start")) (b_362_1 cf) sNil) (b_362_4 cf))
noncomputable def b_362 (cf:CallF):SX:=(sSeq (sAssign (eBin .Sub (eAttr (eVar "self") "gap_end") (eAttr (eVar "self") "gap_start")) (tVar "shift")) (b_362_5 cf))
theorem call_362 (k:Nat) (vs:List AV) (H:Hp):callF (k+1) 362 vs H=runV ["self","start","end"] (none) (b_362 (callF k)) vs H:=by kernel_rfl
noncomputable def b_369_1 (cf:CallF):SX:=(sSeq (sAssign (eBin .Sub (eAttr (eVar "self") "gap_end") (eBlt "len" [(eVar "moved")])) (tAttr (eVar "self") "gap_end")) sNil)
noncomputable def b_369_2 (cf:CallF):SX:=(sSeq (sAssign (eVar "moved") (tSlice (eAttr (eVar "self") "cells") (some (eBin .Sub (eAttr (eVar "self") "gap_end") (eBlt "len" [(eVar "moved")]))) (some (eAttr (eVar "self") "gap_end")))) (b_369_1 cf))
noncomputable def b_369_3 (cf:CallF):SX:=(sSeq (sAssign (eSlice (eAttr (eVar "self") "cells") (some (eVar "at")) (some (eAttr (eVar "self") "gap_start"))) (tVar "moved")) (b_369_2 cf))
noncomputable def b_369_4 (cf:CallF):SX:=(sSeq (sAssign (eBin .Add (eAttr (eVar "self") "gap_end") (eBlt "len" [(eVar "moved")])) (tAttr (eVar "self") "gap_end")) sNil)
noncomputable def b_369_5 (cf:CallF):SX:=(sSeq (sAssign (eVar "moved") (tSlice (eAttr (eVar "self") "cells") (some (eAttr (eVar "self") "gap_start")) (some (eBin .Add (eAttr (eVar "self") "gap_start") (eBlt "len" [(eVar "moved")]))))) (b_369_4 cf))
noncomputable def b_369_6 (cf:CallF):SX:=(sSeq (sAssign (eSlice (eAttr (eVar "self") "cells") (some (eAttr (eVar "self") "gap_end")) (some (eBin .Sub (eBin .Add (eAttr (eVar "self") "gap_end") (eVar "at")) (eAttr (eVar "self") "gap_start")))) (tVar "moved")) (b_369_5 cf))
noncomputable def b_369_7 (cf:CallF):SX:=(sSeq (sAssign (eVar "at") (tAttr (eVar "self") "gap_start")) sNil)
noncomputable def b_369 (cf:CallF):SX:=(sSeq (sIf (eCmp .Lt (eVar "at") (eAttr (eVar "self") "gap_start")) (b_369_3 cf) (b_369_6 cf)) (b_369_7 cf))
theorem call_369 (k:Nat) (vs:List AV) (H:Hp):callF (k+1) 369 vs H=runV ["self","at"] (none) (b_369 (callF k)) vs H:=by kernel_rfl
noncomputable def b_376_1 (cf:CallF):SX:=(sSeq (sAssign (eBin .Add (eBin .Add (eAttr (eVar "self") "gap_end") (eVar "lack")) (eAttr (eVar "self") "room")) (tAttr (eVar "self") "gap_end")) sNil)
noncomputable def b_376_2 (cf:CallF):SX:=(sSeq (sAssign (eBin .Mult (eList [(eInt 0)]) (eBin .Add (eVar "lack") (eAttr (eVar "self") "room"))) (tSlice (eAttr (eVar "self") "cells") (some (eAttr (eVar "self") "gap_end")) (some (eAttr (eVar "self") "gap_end")))) (b_376_1 cf))
noncomputable def b_376_3 (cf:CallF):SX:=(sSeq (sIf (eCmp .Gt (eVar "lack") (eInt 0)) (b_376_2 cf) sNil) sNil)
noncomputable def b_376 (cf:CallF):SX:=(sSeq (sAssign (eBin .Sub (eVar "wanted") (eBin .Sub (eAttr (eVar "self") "gap_end") (eAttr (eVar "self") "gap_start"))) (tVar "lack")) (b_376_3 cf))
theorem call_376 (k:Nat) (vs:List AV) (H:Hp):callF (k+1) 376 vs H=runV ["self","wanted"] (none) (b_376 (callF k)) vs H:=by kernel_rfl
noncomputable def b_383_1 (cf:CallF):SX:=(sSeq (sAssign (eBin .Add (eVar "at") (eBlt "len" [(eVar "codes")])) (tAttr (eVar "self") "gap_start")) sNil)
noncomputable def b_383_2 (cf:CallF):SX:=(sSeq (sAssign (eVar "codes") (tSlice (eAttr (eVar "self") "cells") (some (eVar "at")) (some (eBin .Add (eVar "at") (eBlt "len" [(eVar "codes")]))))) (b_383_1 cf))
noncomputable def b_383_3 (cf:CallF):SX:=(sSeq (sExpr (eMeth cf (eVar "self") "move_gap" [(eVar "at")])) (b_383_2 cf))
noncomputable def b_383 (cf:CallF):SX:=(sSeq (sExpr (eMeth cf (eVar "self") "widen_gap" [(eBlt "len" [(eVar "codes")])])) (b_383_3 cf))
theorem call_383 (k:Nat) (vs:List AV) (H:Hp):callF (k+1) 383 vs H=runV ["self","at","codes"] (none) (b_383 (callF k)) vs H:=by kernel_rfl
noncomputable def b_390_1 (cf:CallF):SX:=(sSeq (sExpr (eMeth cf (eVar "self") "move_gap" [(eVar "end")])) sNil)
noncomputable def b_390_2 (cf:CallF):SX:=(sSeq (sExpr (eMeth cf (eVar "self") "move_gap" [(eVar "start")])) sNil)
noncomputable def b_390_3 (cf:CallF):SX:=(sSeq (sAssign (eVar "start") (tAttr (eVar "self") "gap_start")) (sSeq (sRet (eVar "gone")) sNil))
noncomputable def b_390_4 (cf:CallF):SX:=(sSeq (sAssign (eBin .Sub (eBin .Add (eAttr (eVar "self") "gap_end") (eVar "end")) (eAttr (eVar "self") "gap_start")) (tAttr (eVar "self") "gap_end")) (b_390_3 cf))
noncomputable def b_390_5 (cf:CallF):SX:=(sSeq (sIf (eCmp .Gt (eVar "start") (eAttr (eVar "self") "gap_start")) (b_390_2 cf) sNil) (b_390_4 cf))
noncomputable def b_390_6 (cf:CallF):SX:=(sSeq (sIf (eCmp .Lt (eVar "end") (eAttr (eVar "self") "gap_start")) (b_390_1 cf) sNil) (b_390_5 cf))
noncomputable def b_390 (cf:CallF):SX:=(sSeq (sAssign (eMeth cf (eVar "self") "codes" [(eVar "start"),(eVar "end")]) (tVar "gone")) (b_390_6 cf))
theorem call_390 (k:Nat) (vs:List AV) (H:Hp):callF (k+1) 390 vs H=runV ["self","start","end"] (none) (b_390 (callF k)) vs H:=by kernel_rfl
noncomputable def b_432 (cf:CallF):SX:=(sSeq (sAssign eDict0 (tAttr (eVar "self") "rows")) sNil)
theorem call_432 (k:Nat) (vs:List AV) (H:Hp):callF (k+1) 432 vs H=runV ["self"] (none) (b_432 (callF k)) vs H:=by kernel_rfl
noncomputable def b_439 (cf:CallF):SX:=(sSeq (sRet (eBlt "sorted" [(eAttr (eVar "self") "rows")])) sNil)
theorem call_439 (k:Nat) (vs:List AV) (H:Hp):callF (k+1) 439 vs H=runV ["self"] (none) (b_439 (callF k)) vs H:=by kernel_rfl
noncomputable def b_467_1 (cf:CallF):SX:=(sSeq (sAssign (eBin .Sub (eBin .Add (eAttr (eVar "marker") "position") (eVar "end")) (eVar "start")) (tAttr (eVar "marker") "position")) sNil)
noncomputable def b_467_2 (cf:CallF):SX:=(sSeq (sIf (eAny [(eCmp .Gt (eAttr (eVar "marker") "position") (eVar "start")),(eAll [(eCmp .Eq (eAttr (eVar "marker") "position") (eVar "start")),(eAny [(eVar "is_before"),(eAttr (eVar "marker") "advances")])])]) (b_467_1 cf) sNil) sNil)
noncomputable def b_467_3 (cf:CallF):SX:=(sSeq (sAssign (eIdx (eAttr (eVar "self") "rows") (eVar "number")) (tVar "marker")) (b_467_2 cf))
noncomputable def b_467 (cf:CallF):SX:=(sSeq (sFor (iList (eMeth cf (eVar "self") "numbers" [])) (tVar "number") (b_467_3 cf)) sNil)
theorem call_467 (k:Nat) (vs:List AV) (H:Hp):callF (k+1) 467 vs H=runV ["self","start","end","is_before"] (none) (b_467 (callF k)) vs H:=by kernel_rfl
noncomputable def b_474_1 (cf:CallF):SX:=(sSeq (sAssign (eBin .Sub (eAttr (eVar "marker") "position") (eBin .Sub (eVar "end") (eVar "start"))) (tAttr (eVar "marker") "position")) sNil)
noncomputable def b_474_2 (cf:CallF):SX:=(sSeq (sAssign (eVar "start") (tAttr (eVar "marker") "position")) sNil)
noncomputable def b_474_3 (cf:CallF):SX:=(sSeq (sIf (eCmp .Gt (eAttr (eVar "marker") "position") (eVar "start")) (b_474_2 cf) sNil) sNil)
noncomputable def b_474_4 (cf:CallF):SX:=(sSeq (sIf (eCmp .Gt (eAttr (eVar "marker") "position") (eVar "end")) (b_474_1 cf) (b_474_3 cf)) sNil)
noncomputable def b_474_5 (cf:CallF):SX:=(sSeq (sAssign (eIdx (eAttr (eVar "self") "rows") (eVar "number")) (tVar "marker")) (b_474_4 cf))
noncomputable def b_474 (cf:CallF):SX:=(sSeq (sFor (iList (eMeth cf (eVar "self") "numbers" [])) (tVar "number") (b_474_5 cf)) sNil)
theorem call_474 (k:Nat) (vs:List AV) (H:Hp):callF (k+1) 474 vs H=runV ["self","start","end"] (none) (b_474 (callF k)) vs H:=by kernel_rfl
noncomputable def b_481_1 (cf:CallF):SX:=(sSeq (sAssign (eBin .Sub (eBin .Add (eAttr (eVar "marker") "position") (eVar "many")) (eBin .Sub (eVar "end") (eVar "start"))) (tAttr (eVar "marker") "position")) sNil)
noncomputable def b_481_2 (cf:CallF):SX:=(sSeq (sAssign (eVar "start") (tAttr (eVar "marker") "position")) sNil)
noncomputable def b_481_3 (cf:CallF):SX:=(sSeq (sIf (eCmp .Gt (eAttr (eVar "marker") "position") (eVar "start")) (b_481_2 cf) sNil) sNil)
noncomputable def b_481_4 (cf:CallF):SX:=(sSeq (sIf (eCmp .GtE (eAttr (eVar "marker") "position") (eVar "end")) (b_481_1 cf) (b_481_3 cf)) sNil)
noncomputable def b_481_5 (cf:CallF):SX:=(sSeq (sAssign (eIdx (eAttr (eVar "self") "rows") (eVar "number")) (tVar "marker")) (b_481_4 cf))
noncomputable def b_481 (cf:CallF):SX:=(sSeq (sFor (iList (eMeth cf (eVar "self") "numbers" [])) (tVar "number") (b_481_5 cf)) sNil)
theorem call_481 (k:Nat) (vs:List AV) (H:Hp):callF (k+1) 481 vs H=runV ["self","start","end","many"] (none) (b_481 (callF k)) vs H:=by kernel_rfl
noncomputable def b_538_1 (cf:CallF):SX:=(sSeq (sAssign eNone (tAttr (eVar "self") "syntax")) (sSeq (sAssign eNone (tAttr (eVar "self") "file")) sNil))
noncomputable def b_538_2 (cf:CallF):SX:=(sSeq (sAssign eNone (tAttr (eVar "self") "locals")) (b_538_1 cf))
noncomputable def b_538_3 (cf:CallF):SX:=(sSeq (sAssign eNone (tAttr (eVar "self") "overlays")) (b_538_2 cf))
noncomputable def b_538_4 (cf:CallF):SX:=(sSeq (sAssign eNone (tAttr (eVar "self") "props")) (b_538_3 cf))
noncomputable def b_538_5 (cf:CallF):SX:=(sSeq (sAssign eNone (tAttr (eVar "self") "undo")) (b_538_4 cf))
noncomputable def b_538_6 (cf:CallF):SX:=(sSeq (sAssign (eList []) (tAttr (eVar "self") "listeners")) (b_538_5 cf))
noncomputable def b_538_7 (cf:CallF):SX:=(sSeq (sAssign (eInt 1) (tAttr (eVar "self") "saved_ticks")) (b_538_6 cf))
noncomputable def b_538_8 (cf:CallF):SX:=(sSeq (sAssign (eInt 1) (tAttr (eVar "self") "codes_ticks")) (b_538_7 cf))
noncomputable def b_538_9 (cf:CallF):SX:=(sSeq (sAssign (eInt 1) (tAttr (eVar "self") "ticks")) (b_538_8 cf))
noncomputable def b_538_10 (cf:CallF):SX:=(sSeq (sAssign (eBool false) (tAttr (eVar "self") "is_read_only")) (b_538_9 cf))
noncomputable def b_538_11 (cf:CallF):SX:=(sSeq (sAssign (eBool true) (tAttr (eVar "self") "is_live")) (b_538_10 cf))
noncomputable def b_538_12 (cf:CallF):SX:=(sSeq (sAssign eNone (tAttr (eVar "self") "mark")) (b_538_11 cf))
noncomputable def b_538_13 (cf:CallF):SX:=(sSeq (sAssign (eInt 1) (tAttr (eVar "self") "zv")) (b_538_12 cf))
noncomputable def b_538_14 (cf:CallF):SX:=(sSeq (sAssign (eInt 1) (tAttr (eVar "self") "begv")) (b_538_13 cf))
noncomputable def b_538_15 (cf:CallF):SX:=(sSeq (sAssign (eInt 1) (tAttr (eVar "self") "point")) (b_538_14 cf))
noncomputable def b_538_16 (cf:CallF):SX:=(sSeq (sAssign (eNew cf 484 432 []) (tAttr (eVar "self") "markers")) (b_538_15 cf))
noncomputable def b_538_17 (cf:CallF):SX:=(sSeq (sAssign (eNew cf 414 341 [(eList []),(eVar "room")]) (tAttr (eVar "self") "text")) (b_538_16 cf))
noncomputable def b_538_18 (cf:CallF):SX:=(sSeq (sAssign (eVar "name") (tAttr (eVar "self") "name")) (b_538_17 cf))
noncomputable def b_538 (cf:CallF):SX:=(sSeq (sAssign (eVar "number") (tAttr (eVar "self") "number")) (b_538_18 cf))
theorem call_538 (k:Nat) (vs:List AV) (H:Hp):callF (k+1) 538 vs H=runV ["self","number","name","room"] (some (.int 8)) (b_538 (callF k)) vs H:=by kernel_rfl
noncomputable def b_559 (cf:CallF):SX:=(sSeq (sRet (eAttr (eVar "self") "begv")) sNil)
noncomputable def b_566 (cf:CallF):SX:=(sSeq (sRet (eAttr (eVar "self") "zv")) sNil)
noncomputable def b_573 (cf:CallF):SX:=(sSeq (sRet (eMeth cf (eAttr (eVar "self") "text") "size" [])) sNil)
theorem call_573 (k:Nat) (vs:List AV) (H:Hp):callF (k+1) 573 vs H=runV ["self"] (none) (b_573 (callF k)) vs H:=by kernel_rfl
noncomputable def b_587 (cf:CallF):SX:=(sSeq (sRet (eMeth cf (eAttr (eVar "self") "text") "codes" [(eBin .Sub (eVar "start") (eInt 1)),(eBin .Sub (eVar "end") (eInt 1))])) sNil)
theorem call_587 (k:Nat) (vs:List AV) (H:Hp):callF (k+1) 587 vs H=runV ["self","start","end"] (none) (b_587 (callF k)) vs H:=by kernel_rfl
noncomputable def b_622_1 (cf:CallF):SX:=(sSeq (sAssign (eAttr (eVar "self") "ticks") (tAttr (eVar "self") "codes_ticks")) sNil)
noncomputable def b_622_2 (cf:CallF):SX:=(sSeq (sIf (eVar "are_codes") (b_622_1 cf) sNil) sNil)
noncomputable def b_622 (cf:CallF):SX:=(sSeq (sAssign (eBin .Add (eAttr (eVar "self") "ticks") (eInt 1)) (tAttr (eVar "self") "ticks")) (b_622_2 cf))
theorem call_622 (k:Nat) (vs:List AV) (H:Hp):callF (k+1) 622 vs H=runV ["self","are_codes"] (none) (b_622 (callF k)) vs H:=by kernel_rfl
noncomputable def b_641_1 (cf:CallF):SX:=(sSeq (sAssign (eInt 0) (tAttr (eVar "self") "growth")) sNil)
noncomputable def b_641_2 (cf:CallF):SX:=(sSeq (sAssign eNone (tAttr (eVar "self") "end")) (b_641_1 cf))
noncomputable def b_641_3 (cf:CallF):SX:=(sSeq (sAssign eNone (tAttr (eVar "self") "begin")) (b_641_2 cf))
noncomputable def b_641 (cf:CallF):SX:=(sSeq (sAssign (eList []) (tAttr (eVar "self") "rows")) (b_641_3 cf))
theorem call_641 (k:Nat) (vs:List AV) (H:Hp):callF (k+1) 641 vs H=runV ["self"] (none) (b_641 (callF k)) vs H:=by kernel_rfl
noncomputable def b_648 (cf:CallF):SX:=(sSeq (sRet eNone) sNil)
theorem call_648 (k:Nat) (vs:List AV) (H:Hp):callF (k+1) 648 vs H=runV ["self","buffer","start","end"] (none) (b_648 (callF k)) vs H:=by kernel_rfl
noncomputable def b_655_1 (cf:CallF):SX:=(sSeq (sAssign (eTup [(eVar "start"),(eVar "end")]) (tTup [(tAttr (eVar "self") "begin"),(tAttr (eVar "self") "end")])) sNil)
noncomputable def b_655_2 (cf:CallF):SX:=(sSeq (sAssign (eIf (eCmp .GtE (eAttr (eVar "self") "end") (eBin .Add (eVar "start") (eVar "old_length"))) (eBin .Add (eAttr (eVar "self") "end") (eVar "growth")) (eVar "end")) (tAttr (eVar "self") "end")) sNil)
noncomputable def b_655_3 (cf:CallF):SX:=(sSeq (sAssign (eBlt "min" [(eAttr (eVar "self") "begin"),(eVar "start")]) (tAttr (eVar "self") "begin")) (b_655_2 cf))
noncomputable def b_655_4 (cf:CallF):SX:=(sSeq (sAssign (eBin .Add (eAttr (eVar "self") "growth") (eVar "growth")) (tAttr (eVar "self") "growth")) sNil)
noncomputable def b_655_5 (cf:CallF):SX:=(sSeq (sIf (eCmp .Is (eAttr (eVar "self") "begin") eNone) (b_655_1 cf) (b_655_3 cf)) (b_655_4 cf))
noncomputable def b_655_6 (cf:CallF):SX:=(sSeq (sAssign (eBin .Sub (eBin .Sub (eVar "end") (eVar "start")) (eVar "old_length")) (tVar "growth")) (b_655_5 cf))
noncomputable def b_655 (cf:CallF):SX:=(sSeq (sExpr (eMeth cf (eAttr (eVar "self") "rows") "append" [(eTup [(eVar "start"),(eVar "end"),(eVar "old_length")])])) (b_655_6 cf))
theorem call_655 (k:Nat) (vs:List AV) (H:Hp):callF (k+1) 655 vs H=runV ["self","buffer","start","end","old_length"] (none) (b_655 (callF k)) vs H:=by kernel_rfl
noncomputable def b_662_1 (cf:CallF):SX:=(sSeq (sAssign (eTup [(eList []),eNone,eNone,(eInt 0)]) (tTup [(tAttr (eVar "self") "rows"),(tAttr (eVar "self") "begin"),(tAttr (eVar "self") "end"),(tAttr (eVar "self") "growth")])) (sSeq (sRet (eVar "found")) sNil))
noncomputable def b_662 (cf:CallF):SX:=(sSeq (sAssign (eIf (eCmp .Is (eAttr (eVar "self") "begin") eNone) eNone (eTup [(eAttr (eVar "self") "begin"),(eAttr (eVar "self") "end"),(eBin .Sub (eBin .Sub (eAttr (eVar "self") "end") (eAttr (eVar "self") "begin")) (eAttr (eVar "self") "growth"))])) (tVar "found")) (b_662_1 cf))
theorem call_662 (k:Nat) (vs:List AV) (H:Hp):callF (k+1) 662 vs H=runV ["self"] (none) (b_662 (callF k)) vs H:=by kernel_rfl
noncomputable def b_676 (cf:CallF):SX:=(sSeq (sIf (eAttr (eVar "buffer") "is_read_only") (sSeq noS sNil) sNil) sNil)
theorem call_676 (k:Nat) (vs:List AV) (H:Hp):callF (k+1) 676 vs H=runV ["buffer"] (none) (b_676 (callF k)) vs H:=by kernel_rfl
noncomputable def b_683 (cf:CallF):SX:=(sSeq (sIf (eCmp .Gt (eBin .Add (eMeth cf (eVar "buffer") "size" []) (eVar "growth")) (eInt 4194304)) (sSeq noS sNil) sNil) sNil)
theorem call_683 (k:Nat) (vs:List AV) (H:Hp):callF (k+1) 683 vs H=runV ["buffer","growth"] (none) (b_683 (callF k)) vs H:=by kernel_rfl
noncomputable def b_690_1 (cf:CallF):SX:=(sSeq (sRet (eTup [(eVar "low"),(eVar "high")])) sNil)
noncomputable def b_690_2 (cf:CallF):SX:=(sSeq (sIf (eAny [(eCmp .Lt (eVar "low") (eAttr (eVar "buffer") "begv")),(eCmp .Gt (eVar "high") (eAttr (eVar "buffer") "zv"))]) (sSeq noS sNil) sNil) (b_690_1 cf))
noncomputable def b_690 (cf:CallF):SX:=(sSeq (sSwapV (eTup [(eBlt "min" [(eVar "start"),(eVar "end")]),(eBlt "max" [(eVar "start"),(eVar "end")])]) ["low","high"]) (b_690_2 cf))
theorem call_690 (k:Nat) (vs:List AV) (H:Hp):callF (k+1) 690 vs H=runV ["buffer","start","end"] (none) (b_690 (callF k)) vs H:=by kernel_rfl
noncomputable def b_697_1 (cf:CallF):SX:=(sSeq (sExpr (eMeth cf (eVar "listener") "before_change" [(eVar "buffer"),(eVar "start"),(eVar "end")])) sNil)
noncomputable def b_697 (cf:CallF):SX:=(sSeq (sFor (iList (eBlt "list" [(eAttr (eVar "buffer") "listeners")])) (tVar "listener") (b_697_1 cf)) sNil)
theorem call_697 (k:Nat) (vs:List AV) (H:Hp):callF (k+1) 697 vs H=runV ["buffer","start","end"] (none) (b_697 (callF k)) vs H:=by kernel_rfl
noncomputable def b_704_1 (cf:CallF):SX:=(sSeq (sExpr (eMeth cf (eVar "listener") "after_change" [(eVar "buffer"),(eVar "start"),(eVar "end"),(eVar "old_length")])) sNil)
noncomputable def b_704_2 (cf:CallF):SX:=(sSeq (sFor (iList (eBlt "list" [(eAttr (eVar "buffer") "listeners")])) (tVar "listener") (b_704_1 cf)) sNil)
noncomputable def b_704 (cf:CallF):SX:=(sSeq (sExpr (eMeth cf (eVar "buffer") "touch" [(eBool true)])) (b_704_2 cf))
theorem call_704 (k:Nat) (vs:List AV) (H:Hp):callF (k+1) 704 vs H=runV ["buffer","start","end","old_length"] (none) (b_704 (callF k)) vs H:=by kernel_rfl
noncomputable def b_711_1 (cf:CallF):SX:=(sSeq (sExpr (eMeth cf (eAttr (eVar "buffer") "undo") "text_goes" [(eVar "buffer"),(eVar "start"),(eVar "end")])) sNil)
noncomputable def b_711_2 (cf:CallF):SX:=(sSeq (sAssign (eBlt "max" [(eVar "start"),(eBin .Sub (eAttr (eVar "buffer") "point") (eBin .Sub (eVar "end") (eVar "start")))]) (tAttr (eVar "buffer") "point")) sNil)
noncomputable def b_711_3 (cf:CallF):SX:=(sSeq (sIf (eCmp .Gt (eAttr (eVar "buffer") "point") (eVar "start")) (b_711_2 cf) sNil) (sSeq (sRet (eVar "gone")) sNil))
noncomputable def b_711_4 (cf:CallF):SX:=(sSeq (sAssign (eBin .Sub (eAttr (eVar "buffer") "zv") (eBin .Sub (eVar "end") (eVar "start"))) (tAttr (eVar "buffer") "zv")) (b_711_3 cf))
noncomputable def b_711_5 (cf:CallF):SX:=(sSeq (sAssign (eMeth cf (eAttr (eVar "buffer") "text") "delete" [(eBin .Sub (eVar "start") (eInt 1)),(eBin .Sub (eVar "end") (eInt 1))]) (tVar "gone")) (b_711_4 cf))
noncomputable def b_711 (cf:CallF):SX:=(sSeq (sIf (eCmp .IsNot (eAttr (eVar "buffer") "undo") eNone) (b_711_1 cf) sNil) (b_711_5 cf))
theorem call_711 (k:Nat) (vs:List AV) (H:Hp):callF (k+1) 711 vs H=runV ["buffer","start","end"] (none) (b_711 (callF k)) vs H:=by kernel_rfl
noncomputable def b_718_1 (cf:CallF):SX:=(sSeq (sExpr (eMeth cf (eAttr (eVar "buffer") "undo") "text_comes" [(eVar "buffer"),(eVar "place"),(eBlt "len" [(eVar "codes")])])) sNil)
noncomputable def b_718_2 (cf:CallF):SX:=(sSeq (sAssign (eBin .Add (eAttr (eVar "buffer") "point") (eBlt "len" [(eVar "codes")])) (tAttr (eVar "buffer") "point")) sNil)
noncomputable def b_718_3 (cf:CallF):SX:=(sSeq (sIf (eCmp .Gt (eAttr (eVar "buffer") "point") (eVar "place")) (b_718_2 cf) sNil) sNil)
noncomputable def b_718_4 (cf:CallF):SX:=(sSeq (sAssign (eBin .Add (eAttr (eVar "buffer") "zv") (eBlt "len" [(eVar "codes")])) (tAttr (eVar "buffer") "zv")) (b_718_3 cf))
noncomputable def b_718_5 (cf:CallF):SX:=(sSeq (sExpr (eMeth cf (eAttr (eVar "buffer") "text") "insert" [(eBin .Sub (eVar "place") (eInt 1)),(eVar "codes")])) (b_718_4 cf))
noncomputable def b_718 (cf:CallF):SX:=(sSeq (sIf (eCmp .IsNot (eAttr (eVar "buffer") "undo") eNone) (b_718_1 cf) sNil) (b_718_5 cf))
theorem call_718 (k:Nat) (vs:List AV) (H:Hp):callF (k+1) 718 vs H=runV ["buffer","place","codes"] (none) (b_718 (callF k)) vs H:=by kernel_rfl
noncomputable def b_725_1 (cf:CallF):SX:=(sSeq (sExpr (eMeth cf (eAttr (eVar "buffer") "props") "text_gone" [(eBin .Sub (eVar "start") (eInt 1)),(eBin .Sub (eVar "end") (eInt 1))])) sNil)
noncomputable def b_725_2 (cf:CallF):SX:=(sSeq (sExpr (eMeth cf (eAttr (eVar "buffer") "overlays") "text_gone" [(eBin .Sub (eVar "start") (eInt 1)),(eBin .Sub (eVar "end") (eInt 1))])) sNil)
noncomputable def b_725_3 (cf:CallF):SX:=(sSeq (sIf (eCmp .IsNot (eAttr (eVar "buffer") "overlays") eNone) (b_725_2 cf) sNil) sNil)
noncomputable def b_725 (cf:CallF):SX:=(sSeq (sIf (eCmp .IsNot (eAttr (eVar "buffer") "props") eNone) (b_725_1 cf) sNil) (b_725_3 cf))
theorem call_725 (k:Nat) (vs:List AV) (H:Hp):callF (k+1) 725 vs H=runV ["buffer","start","end"] (none) (b_725 (callF k)) vs H:=by kernel_rfl
noncomputable def b_732_1 (cf:CallF):SX:=(sSeq (sExpr (eMeth cf (eAttr (eVar "buffer") "props") "text_came" [(eBin .Sub (eVar "place") (eInt 1)),(eVar "many")])) sNil)
noncomputable def b_732_2 (cf:CallF):SX:=(sSeq (sExpr (eMeth cf (eAttr (eVar "buffer") "overlays") "text_came" [(eBin .Sub (eVar "place") (eInt 1)),(eVar "many"),(eVar "before_markers")])) sNil)
noncomputable def b_732_3 (cf:CallF):SX:=(sSeq (sIf (eCmp .IsNot (eAttr (eVar "buffer") "overlays") eNone) (b_732_2 cf) sNil) sNil)
noncomputable def b_732 (cf:CallF):SX:=(sSeq (sIf (eCmp .IsNot (eAttr (eVar "buffer") "props") eNone) (b_732_1 cf) sNil) (b_732_3 cf))
theorem call_732 (k:Nat) (vs:List AV) (H:Hp):callF (k+1) 732 vs H=runV ["buffer","place","many","before_markers"] (none) (b_732 (callF k)) vs H:=by kernel_rfl
noncomputable def b_739_1 (cf:CallF):SX:=(sSeq (sAssign (eBin .Add (eVar "place") (eBlt "len" [(eVar "codes")])) (tAttr (eVar "buffer") "point")) sNil)
noncomputable def b_739_2 (cf:CallF):SX:=(sSeq (sExpr (eFun cf 704 [(eVar "buffer"),(eVar "place"),(eBin .Add (eVar "place") (eBlt "len" [(eVar "codes")])),(eInt 0)])) sNil)
noncomputable def b_739_3 (cf:CallF):SX:=(sSeq (sExpr (eFun cf 732 [(eVar "buffer"),(eVar "place"),(eBlt "len" [(eVar "codes")]),(eVar "before_markers")])) (b_739_2 cf))
noncomputable def b_739_4 (cf:CallF):SX:=(sSeq (sExpr (eMeth cf (eAttr (eVar "buffer") "markers") "inserted" [(eVar "place"),(eBin .Add (eVar "place") (eBlt "len" [(eVar "codes")])),(eVar "before_markers")])) (b_739_3 cf))
noncomputable def b_739_5 (cf:CallF):SX:=(sSeq (sIf (eVar "is_point_behind") (b_739_1 cf) sNil) (b_739_4 cf))
noncomputable def b_739_6 (cf:CallF):SX:=(sSeq (sExpr (eFun cf 718 [(eVar "buffer"),(eVar "place"),(eVar "codes")])) (b_739_5 cf))
noncomputable def b_739_7 (cf:CallF):SX:=(sSeq (sExpr (eFun cf 697 [(eVar "buffer"),(eVar "place"),(eVar "place")])) (b_739_6 cf))
noncomputable def b_739_8 (cf:CallF):SX:=(sSeq (sExpr (eFun cf 683 [(eVar "buffer"),(eBlt "len" [(eVar "codes")])])) (b_739_7 cf))
noncomputable def b_739_9 (cf:CallF):SX:=(sSeq (sIf (eCmp .Eq (eBlt "len" [(eVar "codes")]) (eInt 0)) (sSeq sRet0 sNil) sNil) (b_739_8 cf))
noncomputable def b_739_10 (cf:CallF):SX:=(sSeq (sExpr (eFun cf 690 [(eVar "buffer"),(eVar "place"),(eVar "place")])) (b_739_9 cf))
noncomputable def b_739 (cf:CallF):SX:=(sSeq (sExpr (eFun cf 676 [(eVar "buffer")])) (b_739_10 cf))
theorem call_739 (k:Nat) (vs:List AV) (H:Hp):callF (k+1) 739 vs H=runV ["buffer","place","codes","before_markers","is_point_behind"] (none) (b_739 (callF k)) vs H:=by kernel_rfl
noncomputable def b_747 (cf:CallF):SX:=(sSeq (sExpr (eFun cf 739 [(eVar "buffer"),(eVar "place"),(eVar "codes"),(eVar "before_markers"),(eBool false)])) sNil)
theorem call_747 (k:Nat) (vs:List AV) (H:Hp):callF (k+1) 747 vs H=runV ["buffer","place","codes","before_markers"] (some (.bool false)) (b_747 (callF k)) vs H:=by kernel_rfl
noncomputable def b_754_1 (cf:CallF):SX:=(sSeq (sExpr (eFun cf 704 [(eVar "buffer"),(eVar "low"),(eVar "low"),(eBin .Sub (eVar "high") (eVar "low"))])) (sSeq (sRet (eVar "gone")) sNil))
noncomputable def b_754_2 (cf:CallF):SX:=(sSeq (sExpr (eFun cf 725 [(eVar "buffer"),(eVar "low"),(eVar "high")])) (b_754_1 cf))
noncomputable def b_754_3 (cf:CallF):SX:=(sSeq (sExpr (eMeth cf (eAttr (eVar "buffer") "markers") "deleted" [(eVar "low"),(eVar "high")])) (b_754_2 cf))
noncomputable def b_754_4 (cf:CallF):SX:=(sSeq (sAssign (eFun cf 711 [(eVar "buffer"),(eVar "low"),(eVar "high")]) (tVar "gone")) (b_754_3 cf))
noncomputable def b_754_5 (cf:CallF):SX:=(sSeq (sExpr (eFun cf 697 [(eVar "buffer"),(eVar "low"),(eVar "high")])) (b_754_4 cf))
noncomputable def b_754_6 (cf:CallF):SX:=(sSeq (sIf (eCmp .Eq (eVar "low") (eVar "high")) (sSeq (sRet (eList [])) sNil) sNil) (b_754_5 cf))
noncomputable def b_754_7 (cf:CallF):SX:=(sSeq (sAssign (eFun cf 690 [(eVar "buffer"),(eVar "start"),(eVar "end")]) (tTup [(tVar "low"),(tVar "high")])) (b_754_6 cf))
noncomputable def b_754 (cf:CallF):SX:=(sSeq (sExpr (eFun cf 676 [(eVar "buffer")])) (b_754_7 cf))
theorem call_754 (k:Nat) (vs:List AV) (H:Hp):callF (k+1) 754 vs H=runV ["buffer","start","end"] (none) (b_754 (callF k)) vs H:=by kernel_rfl
noncomputable def b_762_1 (cf:CallF):SX:=(sSeq (sExpr (eFun cf 747 [(eVar "buffer"),(eVar "low"),(eVar "codes")])) (sSeq (sRet (eList [])) sNil))
noncomputable def b_762_2 (cf:CallF):SX:=(sSeq (sRet (eFun cf 754 [(eVar "buffer"),(eVar "low"),(eVar "high")])) sNil)
noncomputable def b_762_3 (cf:CallF):SX:=(sSeq (sAssign (eBin .Sub (eBin .Add (eVar "point") (eBlt "len" [(eVar "codes")])) (eBin .Sub (eVar "high") (eVar "low"))) (tAttr (eVar "buffer") "point")) sNil)
noncomputable def b_762_4 (cf:CallF):SX:=(sSeq (sExpr (eMeth cf (eAttr (eVar "buffer") "props") "put_rows" [(eVar "rows")])) sNil)
noncomputable def b_762_5 (cf:CallF):SX:=(sSeq (sExpr (eFun cf 704 [(eVar "buffer"),(eVar "low"),(eBin .Add (eVar "low") (eBlt "len" [(eVar "codes")])),(eBin .Sub (eVar "high") (eVar "low"))])) (sSeq (sRet (eVar "gone")) sNil))
noncomputable def b_762_6 (cf:CallF):SX:=(sSeq (sIf (eCmp .IsNot (eVar "rows") eNone) (b_762_4 cf) sNil) (b_762_5 cf))
noncomputable def b_762_7 (cf:CallF):SX:=(sSeq (sExpr (eFun cf 725 [(eVar "buffer"),(eVar "low"),(eVar "high")])) (b_762_6 cf))
noncomputable def b_762_8 (cf:CallF):SX:=(sSeq (sExpr (eFun cf 732 [(eVar "buffer"),(eVar "high"),(eBlt "len" [(eVar "codes")]),(eBool true)])) (b_762_7 cf))
noncomputable def b_762_9 (cf:CallF):SX:=(sSeq (sExpr (eMeth cf (eAttr (eVar "buffer") "markers") "replaced" [(eVar "low"),(eVar "high"),(eBlt "len" [(eVar "codes")])])) (b_762_8 cf))
noncomputable def b_762_10 (cf:CallF):SX:=(sSeq (sIf (eCmp .GtE (eVar "point") (eVar "high")) (b_762_3 cf) sNil) (b_762_9 cf))
noncomputable def b_762_11 (cf:CallF):SX:=(sSeq (sExpr (eFun cf 718 [(eVar "buffer"),(eVar "low"),(eVar "codes")])) (b_762_10 cf))
noncomputable def b_762_12 (cf:CallF):SX:=(sSeq (sAssign (eFun cf 711 [(eVar "buffer"),(eVar "low"),(eVar "high")]) (tVar "gone")) (b_762_11 cf))
noncomputable def b_762_13 (cf:CallF):SX:=(sSeq (sExpr (eFun cf 697 [(eVar "buffer"),(eVar "low"),(eVar "high")])) (b_762_12 cf))
noncomputable def b_762_14 (cf:CallF):SX:=(sSeq (sAssign (eAttr (eVar "buffer") "point") (tVar "point")) (b_762_13 cf))
noncomputable def b_762_15 (cf:CallF):SX:=(sSeq (sExpr (eFun cf 683 [(eVar "buffer"),(eBin .Sub (eBlt "len" [(eVar "codes")]) (eBin .Sub (eVar "high") (eVar "low")))])) (b_762_14 cf))
noncomputable def b_762_16 (cf:CallF):SX:=(sSeq (sIf (eCmp .Eq (eBlt "len" [(eVar "codes")]) (eInt 0)) (b_762_2 cf) sNil) (b_762_15 cf))
noncomputable def b_762_17 (cf:CallF):SX:=(sSeq (sIf (eCmp .Eq (eVar "low") (eVar "high")) (b_762_1 cf) sNil) (b_762_16 cf))
noncomputable def b_762_18 (cf:CallF):SX:=(sSeq (sAssign (eFun cf 690 [(eVar "buffer"),(eVar "start"),(eVar "end")]) (tTup [(tVar "low"),(tVar "high")])) (b_762_17 cf))
noncomputable def b_762 (cf:CallF):SX:=(sSeq (sExpr (eFun cf 676 [(eVar "buffer")])) (b_762_18 cf))
theorem call_762 (k:Nat) (vs:List AV) (H:Hp):callF (k+1) 762 vs H=runV ["buffer","start","end","codes","rows"] (some .none) (b_762 (callF k)) vs H:=by kernel_rfl
noncomputable def b_769 (cf:CallF):SX:=(sSeq (sRet (eIf (eCmp .NotEq (eVar "deck") (eList [])) (eBin .Mod (eMeth cf (eVar "deck") "pop" [(eInt 0)]) (eVar "many")) (eInt 0))) sNil)
theorem call_769 (k:Nat) (vs:List AV) (H:Hp):callF (k+1) 769 vs H=runV ["deck","many"] (none) (b_769 (callF k)) vs H:=by kernel_rfl
noncomputable def b_776 (cf:CallF):SX:=(sSeq (sRet (eIdx (eList [(eList [(eInt 97),(eInt 98)]),(eList [(eInt 10)]),(eList [(eInt 34)]),(eList [(eInt 47),(eInt 42)]),(eList [(eInt 42),(eInt 47)]),(eList [(eInt 59)]),(eList [(eInt 105),(eInt 102)]),(eList [(eInt 32)]),(eList [(eInt 10)]),(eList [(eInt 92)])]) (eFun cf 769 [(eVar "deck"),(eInt 10)]))) sNil)
theorem call_776 (k:Nat) (vs:List AV) (H:Hp):callF (k+1) 776 vs H=runV ["deck"] (none) (b_776 (callF k)) vs H:=by kernel_rfl
noncomputable def b_783_1 (cf:CallF):SX:=(sSeq (sAssign (eBin .Add (eVar "found") (eFun cf 776 [(eVar "deck")])) (tVar "found")) sNil)
noncomputable def b_783_2 (cf:CallF):SX:=(sSeq (sFor (iRange [(eFun cf 769 [(eVar "deck"),(eVar "most")])]) (tVar "lap") (b_783_1 cf)) (sSeq (sRet (eVar "found")) sNil))
noncomputable def b_783 (cf:CallF):SX:=(sSeq (sAssign (eList []) (tVar "found")) (b_783_2 cf))
theorem call_783 (k:Nat) (vs:List AV) (H:Hp):callF (k+1) 783 vs H=runV ["deck","most"] (none) (b_783 (callF k)) vs H:=by kernel_rfl
noncomputable def b_790_1 (cf:CallF):SX:=(sSeq (sExpr (eMeth cf (eVar "found") "append" [(eList [])])) sNil)
noncomputable def b_790_2 (cf:CallF):SX:=(sSeq (sExpr (eMeth cf (eIdx (eVar "found") (eNeg (eInt 1))) "append" [(eVar "code")])) sNil)
noncomputable def b_790_3 (cf:CallF):SX:=(sSeq (sIf (eCmp .Eq (eVar "code") (eInt 10)) (b_790_1 cf) (b_790_2 cf)) sNil)
noncomputable def b_790_4 (cf:CallF):SX:=(sSeq (sFor (iList (eVar "codes")) (tVar "code") (b_790_3 cf)) (sSeq (sRet (eVar "found")) sNil))
noncomputable def b_790 (cf:CallF):SX:=(sSeq (sAssign (eList [(eList [])]) (tVar "found")) (b_790_4 cf))
theorem call_790 (k:Nat) (vs:List AV) (H:Hp):callF (k+1) 790 vs H=runV ["codes"] (none) (b_790 (callF k)) vs H:=by kernel_rfl
noncomputable def b_797_1 (cf:CallF):SX:=(sSeq (sRet (eNew cf 288 259 [(eVar "signs"),(eVar "rules"),(eInt 1),(eInt 2),(eFun cf 790 [(eVar "codes")])])) sNil)
noncomputable def b_797_2 (cf:CallF):SX:=(sSeq (sAssign (eList [(eNew cf 219 216 [(eNew cf 323 313 [(eList [(eList [(eInt 105),(eInt 102)]),(eList [(eInt 97),(eInt 98)])])]),(eList [(eNew cf 198 195 [(eInt 0),(eInt 3),(eInt 3),(eBool false)])]),(eList [])]),(eNew cf 219 216 [(eNew cf 323 313 [(eList [(eList [(eInt 97)])])]),(eList [(eNew cf 198 195 [(eInt 0),(eInt 4),(eInt 1),(eBool false)])]),(eList [])])]) (tVar "rules")) (b_797_1 cf))
noncomputable def b_797 (cf:CallF):SX:=(sSeq (sAssign (eNew cf 58 55 [(eList [(eInt 34)]),(eInt 92),(eList [(eList [(eInt 59)])]),(eList [(eInt 47),(eInt 42)]),(eList [(eInt 42),(eInt 47)]),(eBool true)]) (tVar "signs")) (b_797_2 cf))
theorem call_797 (k:Nat) (vs:List AV) (H:Hp):callF (k+1) 797 vs H=runV ["codes"] (none) (b_797 (callF k)) vs H:=by kernel_rfl
noncomputable def b_804_1 (cf:CallF):SX:=(sSeq (sExpr (eFun cf 747 [(eVar "buffer"),(eVar "start"),(eVar "codes")])) sNil)
noncomputable def b_804_2 (cf:CallF):SX:=(sSeq (sExpr (eFun cf 754 [(eVar "buffer"),(eVar "start"),(eVar "end")])) sNil)
noncomputable def b_804_3 (cf:CallF):SX:=(sSeq (sExpr (eFun cf 762 [(eVar "buffer"),(eVar "start"),(eVar "end"),(eVar "codes")])) sNil)
noncomputable def b_804_4 (cf:CallF):SX:=(sSeq (sIf (eCmp .Eq (eVar "way") (eInt 2)) (b_804_2 cf) (b_804_3 cf)) sNil)
noncomputable def b_804_5 (cf:CallF):SX:=(sSeq (sIf (eCmp .Lt (eVar "way") (eInt 2)) (b_804_1 cf) (b_804_4 cf)) sNil)
noncomputable def b_804_6 (cf:CallF):SX:=(sSeq (sSwapV (eTup [(eFun cf 769 [(eVar "deck"),(eInt 4)]),(eFun cf 783 [(eVar "deck"),(eInt 4)])]) ["way","codes"]) (b_804_5 cf))
noncomputable def b_804_7 (cf:CallF):SX:=(sSeq (sAssign (eBlt "min" [(eBin .Add (eVar "many") (eInt 1)),(eBin .Add (eVar "start") (eFun cf 769 [(eVar "deck"),(eInt 4)]))]) (tVar "end")) (b_804_6 cf))
noncomputable def b_804_8 (cf:CallF):SX:=(sSeq (sAssign (eBin .Add (eInt 1) (eFun cf 769 [(eVar "deck"),(eBin .Add (eVar "many") (eInt 1))])) (tVar "start")) (b_804_7 cf))
noncomputable def b_804 (cf:CallF):SX:=(sSeq (sAssign (eMeth cf (eVar "buffer") "size" []) (tVar "many")) (b_804_8 cf))
theorem call_804 (k:Nat) (vs:List AV) (H:Hp):callF (k+1) 804 vs H=runV ["deck","buffer"] (none) (b_804 (callF k)) vs H:=by kernel_rfl
noncomputable def b_811_1 (cf:CallF):SX:=(sSeq (sExpr (eMeth cf (eVar "lock_here") "changed" [(eFun cf 790 [(eVar "codes")]),(eVar "first"),(eVar "old_many"),(eBin .Add (eMeth cf (eSliceV "codes" (some (eBin .Sub (eVar "begin") (eInt 1))) (some (eBin .Sub (eVar "end") (eInt 1)))) "count" [(eInt 10)]) (eInt 1))])) (sSeq (sRet (eVar "first")) sNil))
noncomputable def b_811_2 (cf:CallF):SX:=(sSeq (sAssign (eBin .Add (eMeth cf (eSliceV "elder" (some (eBin .Sub (eVar "begin") (eInt 1))) (some (eBin .Add (eBin .Sub (eVar "begin") (eInt 1)) (eVar "size")))) "count" [(eInt 10)]) (eInt 1)) (tVar "old_many")) (b_811_1 cf))
noncomputable def b_811_3 (cf:CallF):SX:=(sSeq (sAssign (eMeth cf (eSliceV "codes" none (some (eBin .Sub (eVar "begin") (eInt 1)))) "count" [(eInt 10)]) (tVar "first")) (b_811_2 cf))
noncomputable def b_811_4 (cf:CallF):SX:=(sSeq (sAssign (eVar "stretch") (tTup [(tVar "begin"),(tVar "end"),(tVar "size")])) (b_811_3 cf))
noncomputable def b_811_5 (cf:CallF):SX:=(sSeq (sIf (eCmp .Is (eVar "stretch") eNone) (sSeq (sRet (eNeg (eInt 1))) sNil) sNil) (b_811_4 cf))
noncomputable def b_811 (cf:CallF):SX:=(sSeq (sAssign (eMeth cf (eVar "log") "taken" []) (tVar "stretch")) (b_811_5 cf))
theorem call_811 (k:Nat) (vs:List AV) (H:Hp):callF (k+1) 811 vs H=runV ["lock_here","log","elder","codes"] (none) (b_811 (callF k)) vs H:=by kernel_rfl
noncomputable def b_816_1 (cf:CallF):SX:=(sSeq (sExpr (eMeth cf (eVar "lock_here") "look" [(eVar "lines"),(eFun cf 769 [(eVar "deck"),(eBlt "len" [(eVar "lines")])])])) sNil)
noncomputable def b_816_2 (cf:CallF):SX:=(sSeq (sExpr (eFun cf 804 [(eVar "deck"),(eVar "buffer")])) sNil)
noncomputable def b_816_3 (cf:CallF):SX:=(sSeq (sIf (eCmp .NotEq (eMeth cf (eVar "lock_here") "look_at" [(eVar "lines"),(eInt 0),(eBlt "len" [(eVar "lines")])]) (eMeth cf (eVar "whole_here") "look_at" [(eVar "lines"),(eInt 0),(eBlt "len" [(eVar "lines")])])) (sSeq (sRet (eBool false)) sNil) sNil) sNil)
noncomputable def b_816_4 (cf:CallF):SX:=(sSeq (sAssign (eFun cf 790 [(eVar "codes")]) (tVar "lines")) (b_816_3 cf))
noncomputable def b_816_5 (cf:CallF):SX:=(sSeq (sIf (eCmp .Eq (eFun cf 769 [(eVar "deck"),(eInt 3)]) (eInt 0)) (b_816_4 cf) sNil) sNil)
noncomputable def b_816_6 (cf:CallF):SX:=(sSeq (sIf (eCmp .NotEq (eAttr (eAttr (eVar "lock_here") "states") "states") (eAttr (eAttr (eVar "whole_here") "states") "states")) (sSeq (sRet (eBool false)) sNil) sNil) (b_816_5 cf))
noncomputable def b_816_7 (cf:CallF):SX:=(sSeq (sSwapV (eTup [(eVar "codes"),(eFun cf 797 [(eVar "codes")])]) ["elder","whole_here"]) (b_816_6 cf))
noncomputable def b_816_8 (cf:CallF):SX:=(sSeq (sIf (eAny [(eCmp .NotEq (eSlice (eAttr (eVar "lock_here") "faces") none (some (eVar "least"))) (eSliceV "known" none (some (eVar "least")))),(eAll [(eCmp .Lt (eVar "first") (eInt 0)),(eCmp .NotEq (eVar "codes") (eVar "elder"))])]) (sSeq (sRet (eBool false)) sNil) sNil) (b_816_7 cf))
noncomputable def b_816_9 (cf:CallF):SX:=(sSeq (sAssign (eIf (eCmp .Lt (eVar "first") (eInt 0)) (eBlt "len" [(eFun cf 790 [(eVar "codes")])]) (eVar "first")) (tVar "least")) (b_816_8 cf))
noncomputable def b_816_10 (cf:CallF):SX:=(sSeq (sAssign (eFun cf 811 [(eVar "lock_here"),(eVar "log"),(eVar "elder"),(eVar "codes")]) (tVar "first")) (b_816_9 cf))
noncomputable def b_816_11 (cf:CallF):SX:=(sSeq (sSwapV (eTup [(eMeth cf (eVar "buffer") "codes" [(eInt 1),(eBin .Add (eMeth cf (eVar "buffer") "size" []) (eInt 1))]),(eBlt "list" [(eAttr (eVar "lock_here") "faces")])]) ["codes","known"]) (b_816_10 cf))
noncomputable def b_816_12 (cf:CallF):SX:=(sSeq (sFor (iRange [(eBin .Add (eInt 1) (eFun cf 769 [(eVar "deck"),(eInt 3)]))]) (tVar "again_here") (b_816_2 cf)) (b_816_11 cf))
noncomputable def b_816_13 (cf:CallF):SX:=(sSeq (sFor (iRange [(eFun cf 769 [(eVar "deck"),(eInt 4)])]) (tVar "again_here") (b_816_1 cf)) (b_816_12 cf))
noncomputable def b_816_14 (cf:CallF):SX:=(sSeq (sAssign (eFun cf 790 [(eVar "elder")]) (tVar "lines")) (b_816_13 cf))
noncomputable def b_816_15 (cf:CallF):SX:=(sSeq (sRet (eCmp .Eq (eMeth cf (eVar "lock_here") "look_at" [(eVar "lines"),(eInt 0),(eBlt "len" [(eVar "lines")])]) (eMeth cf (eVar "whole_here") "look_at" [(eVar "lines"),(eInt 0),(eBlt "len" [(eVar "lines")])]))) sNil)
noncomputable def b_816_16 (cf:CallF):SX:=(sSeq (sSwapV (eTup [(eFun cf 790 [(eVar "elder")]),(eFun cf 797 [(eVar "elder")])]) ["lines","whole_here"]) (b_816_15 cf))
noncomputable def b_816_17 (cf:CallF):SX:=(sSeq (sFor (iRange [(eBin .Add (eInt 1) (eFun cf 769 [(eVar "deck"),(eInt 6)]))]) (tVar "lap") (b_816_14 cf)) (b_816_16 cf))
noncomputable def b_816_18 (cf:CallF):SX:=(sSeq (sSwapV (eTup [(eFun cf 797 [(eVar "elder")]),(eInt 0)]) ["lock_here","least"]) (b_816_17 cf))
noncomputable def b_816_19 (cf:CallF):SX:=(sSeq (sAssign (eMeth cf (eVar "buffer") "codes" [(eInt 1),(eBin .Add (eMeth cf (eVar "buffer") "size" []) (eInt 1))]) (tVar "elder")) (b_816_18 cf))
noncomputable def b_816_20 (cf:CallF):SX:=(sSeq (sExpr (eMeth cf (eAttr (eVar "buffer") "listeners") "append" [(eVar "log")])) (b_816_19 cf))
noncomputable def b_816_21 (cf:CallF):SX:=(sSeq (sExpr (eFun cf 747 [(eVar "buffer"),(eInt 1),(eFun cf 783 [(eVar "deck"),(eInt 12)])])) (b_816_20 cf))
noncomputable def b_816 (cf:CallF):SX:=(sSeq (sSwapV (eTup [(eMapV (fun ρ=>compOk scp3 ocs3 "cell" && scp3.names.all (fun y=>!(y.2 == .free) || (ρ y.1).isSome)) (inner scp3 ocs3) "cell" (iList (eSliceV "script" none (some (eInt 60)))) (eBlt "abs" [(eVar "cell")])),(eNew cf 625 538 [(eInt 1),(eStr "b")]),(eNew cf 665 641 [])]) ["deck","buffer","log"]) (b_816_21 cf))
theorem call_816 (k:Nat) (vs:List AV) (H:Hp):callF (k+1) 816 vs H=runV ["script"] (none) (b_816 (callF k)) vs H:=by kernel_rfl
end Mine
end
section
open PySem PySem.W
set_option Elab.async false
set_option linter.all false
set_option autoImplicit false
namespace Mine
noncomputable def W (c:EX) (ρ:Loc) (H:Hp) (Q:AV→Hp→Prop):Prop:=∃ v H',c ρ H=some (v,H')∧Q v H'
noncomputable def WS (c:SX) (ρ:Loc) (H:Hp) (Q:Fl→Loc→Hp→Prop):Prop:=∃ f ρ' H',c ρ H=some (f,ρ',H')∧Q f ρ' H'
noncomputable def WA (l:List EX) (ρ:Loc) (H:Hp) (Q:List AV→Hp→Prop):Prop:=∃ vs H',eArgs l ρ H=some (vs,H')∧Q vs H'
noncomputable def WT (d:TX) (v:AV) (ρ:Loc) (H:Hp) (Q:Loc→Hp→Prop):Prop:=∃ ρ' H',d v ρ H=some (ρ',H')∧Q ρ' H'
noncomputable def WC (cf:CallF) (f:Nat) (vs:List AV) (H:Hp) (Q:AV→Hp→Prop):Prop:=∃ v H',cf f vs H=some (v,H')∧Q v H'
theorem w_var {x:Str} {ρ:Loc} {H:Hp} {Q:AV→Hp→Prop} {v:AV} (h:ρ x=some v) (q:Q v H):W (eVar x) ρ H Q:=⟨v,H,map_e h,q⟩
theorem w_int {i:Int} {ρ:Loc} {H:Hp} {Q:AV→Hp→Prop} (q:Q (.int i) H):W (eInt i) ρ H Q:=⟨_,_,rfl,q⟩
theorem w_bool {b:Bool} {ρ:Loc} {H:Hp} {Q:AV→Hp→Prop} (q:Q (.bool b) H):W (eBool b) ρ H Q:=⟨_,_,rfl,q⟩
theorem w_none {ρ:Loc} {H:Hp} {Q:AV→Hp→Prop} (q:Q .none H):W eNone ρ H Q:=⟨_,_,rfl,q⟩
theorem w_attr {c:EX} {x:Str} {ρ:Loc} {H:Hp} {Q:AV→Hp→Prop} (h:W c ρ H fun v H1=>∃ k cls fs a,v=.ref k∧H1[k]?=some (.inst cls fs)∧fget x fs=some a∧Q a H1):W (eAttr c x) ρ H Q:=by
  obtain ⟨_,H1,e,k,cls,fs,a,rfl,h1,h2,q⟩:=h
  exact ⟨a,H1,oRef_e e (atInst_e h1 (map_e h2)),q⟩
theorem w_bin {op:Operator} {c d:EX} {ρ:Loc} {H:Hp} {Q:AV→Hp→Prop} (h:W c ρ H fun x H1=>W d ρ H1 fun y H2=>∃ v H',binop op x y H2=some (v,H')∧Q v H'):W (eBin op c d) ρ H Q:=by
  obtain ⟨x,H1,e,y,H2,e2,v,H3,e3,q⟩:=h
  exact ⟨v,H3,oB_e e (oB_e e2 e3),q⟩
theorem w_cmp {op:CmpOp} {c d:EX} {ρ:Loc} {H:Hp} {Q:AV→Hp→Prop} (h:W c ρ H fun x H1=>W d ρ H1 fun y H2=>∃ b,cmpop op x y H2=some b∧Q (.bool b) H2):W (eCmp op c d) ρ H Q:=by
  obtain ⟨x,H1,e,y,H2,e2,b,e3,q⟩:=h
  exact ⟨_,H2,oB_e e (oB_e e2 (map_e e3)),q⟩
theorem w_idx {c d:EX} {ρ:Loc} {H:Hp} {Q:AV→Hp→Prop} (h:W c ρ H fun x H1=>W d ρ H1 fun y H2=>∃ v,idx x y H2=some v∧Q v H2):W (eIdx c d) ρ H Q:=by
  obtain ⟨x,H1,e,y,H2,e2,b,e3,q⟩:=h
  exact ⟨_,H2,oB_e e (oB_e e2 (map_e e3)),q⟩
theorem w_if {t c d:EX} {ρ:Loc} {H:Hp} {Q:AV→Hp→Prop} (h:W t ρ H fun x H1=>∃ b,x=.bool b∧if b then W c ρ H1 Q else W d ρ H1 Q):W (eIf t c d) ρ H Q:=by
  obtain ⟨_,H1,e,b,rfl,h⟩:=h
  cases b
  · obtain ⟨v,H',e',q⟩:=h; exact ⟨v,H',oBool_e e e',q⟩
  · obtain ⟨v,H',e',q⟩:=h; exact ⟨v,H',oBool_e e e',q⟩
theorem w_not {c:EX} {ρ:Loc} {H:Hp} {Q:AV→Hp→Prop} (h:W c ρ H fun x H1=>∃ b,x=.bool b∧Q (.bool !b) H1):W (eNot c) ρ H Q:=by
  obtain ⟨_,H1,e,b,rfl,q⟩:=h; exact ⟨_,H1,oBool_e e rfl,q⟩
theorem w_neg {c:EX} {ρ:Loc} {H:Hp} {Q:AV→Hp→Prop} (h:W c ρ H fun x H1=>∃ b,x=.int b∧Q (.int (-b)) H1):W (eNeg c) ρ H Q:=by
  obtain ⟨_,H1,e,b,rfl,q⟩:=h; exact ⟨_,H1,oInt_e e rfl,q⟩
theorem w_all1 {c:EX} {ρ:Loc} {H:Hp} {Q:AV→Hp→Prop} (h:W c ρ H fun x H1=>∃ b,x=.bool b∧Q (.bool b) H1):W (eAll [c]) ρ H Q:=by
  obtain ⟨_,H1,e,b,rfl,q⟩:=h; exact ⟨_,H1,oBool_e e rfl,q⟩
theorem w_all {c d:EX} {l:List EX} {ρ:Loc} {H:Hp} {Q:AV→Hp→Prop} (h:W c ρ H fun x H1=>∃ b,x=.bool b∧if b then W (eAll (d::l)) ρ H1 Q else Q (.bool false) H1):W (eAll (c::d::l)) ρ H Q:=by
  obtain ⟨_,H1,e,b,rfl,h⟩:=h
  cases b
  · exact ⟨_,H1,oBool_e e rfl,h⟩
  · obtain ⟨v,H',e',q⟩:=h; exact ⟨v,H',oBool_e e e',q⟩
theorem w_any1 {c:EX} {ρ:Loc} {H:Hp} {Q:AV→Hp→Prop} (h:W c ρ H fun x H1=>∃ b,x=.bool b∧Q (.bool b) H1):W (eAny [c]) ρ H Q:=by
  obtain ⟨_,H1,e,b,rfl,q⟩:=h; exact ⟨_,H1,oBool_e e rfl,q⟩
theorem w_any {c d:EX} {l:List EX} {ρ:Loc} {H:Hp} {Q:AV→Hp→Prop} (h:W c ρ H fun x H1=>∃ b,x=.bool b∧if b then Q (.bool true) H1 else W (eAny (d::l)) ρ H1 Q):W (eAny (c::d::l)) ρ H Q:=by
  obtain ⟨_,H1,e,b,rfl,h⟩:=h
  cases b
  · obtain ⟨v,H',e',q⟩:=h; exact ⟨v,H',oBool_e e e',q⟩
  · exact ⟨_,H1,oBool_e e rfl,h⟩
theorem w_cmp2 {op op':CmpOp} {c d d':EX} {ρ:Loc} {H:Hp} {Q:AV→Hp→Prop} (h:W c ρ H fun x H1=>W d ρ H1 fun y H2=>∃ b,cmpop op x y H2=some b∧if b then W d' ρ H2 (fun z H3=>∃ b',cmpop op' y z H3=some b'∧Q (.bool b') H3) else Q (.bool false) H2):W (eCmp2 op op' c d d') ρ H Q:=by
  obtain ⟨x,H1,e,y,H2,e2,b,e3,h⟩:=h
  cases b
  · exact ⟨_,H2,oB_e e (oB_e e2 (bind_e e3 rfl)),h⟩
  · obtain ⟨z,H3,e4,b',e5,q⟩:=h; exact ⟨_,H3,oB_e e (oB_e e2 (bind_e e3 (oB_e e4 (map_e e5)))),q⟩
theorem wa_nil {ρ:Loc} {H:Hp} {Q:List AV→Hp→Prop} (q:Q [] H):WA [] ρ H Q:=⟨_,_,rfl,q⟩
theorem wa_cons {c:EX} {l:List EX} {ρ:Loc} {H:Hp} {Q:List AV→Hp→Prop} (h:W c ρ H fun v H1=>WA l ρ H1 fun vs H2=>Q (v::vs) H2):WA (c::l) ρ H Q:=by
  obtain ⟨v,H1,e,vs,H2,e2,q⟩:=h; exact ⟨_,H2,oB_e e (oB_e e2 rfl),q⟩
theorem w_list {l:List EX} {ρ:Loc} {H:Hp} {Q:AV→Hp→Prop} (h:WA l ρ H fun vs H1=>vs.length≤1000000∧Q (.ref H1.length) (H1++[.list vs])):W (eList l) ρ H Q:=by
  obtain ⟨vs,H1,e,h1,q⟩:=h; exact ⟨_,_,oB_e e (if_pos h1),q⟩
theorem w_tup {l:List EX} {ρ:Loc} {H:Hp} {Q:AV→Hp→Prop} (h:WA l ρ H fun vs H1=>vs.length≤1000000∧Q (.ref H1.length) (H1++[.tup vs])):W (eTup l) ρ H Q:=by
  obtain ⟨vs,H1,e,h1,q⟩:=h; exact ⟨_,_,oB_e e (if_pos h1),q⟩
theorem w_dict0 {ρ:Loc} {H:Hp} {Q:AV→Hp→Prop} (q:Q (.ref H.length) (H++[.dict0])):W eDict0 ρ H Q:=⟨_,_,rfl,q⟩
theorem w_part0 {ρ:Loc} {H:Hp} {Q:AV→Hp→Prop} (q:Q .none H):W (ePart none) ρ H Q:=⟨_,_,rfl,q⟩
theorem w_part {c:EX} {ρ:Loc} {H:Hp} {Q:AV→Hp→Prop} (h:W c ρ H Q):W (ePart (some c)) ρ H Q:=h
theorem w_slice {c:EX} {lo hi:Option EX} {ρ:Loc} {H:Hp} {Q:AV→Hp→Prop} (h:W c ρ H fun x H1=>W (ePart lo) ρ H1 fun l H2=>W (ePart hi) ρ H2 fun u H3=>∃ v H',slice x l u H3=some (v,H')∧Q v H'):W (eSlice c lo hi) ρ H Q:=by
  obtain ⟨x,H1,e,l,H2,e2,u,H3,e3,v,H',e4,q⟩:=h
  exact ⟨v,H',oB_e e (oB_e e2 (oB_e e3 e4)),q⟩
theorem w_sliceV {x:Str} {lo hi:Option EX} {ρ:Loc} {H:Hp} {Q:AV→Hp→Prop} {k:Nat} (hx:ρ x=some (.ref k)) (h:W (eSlice (eVar x) lo hi) ρ H Q):W (eSliceV x lo hi) ρ H Q:=by
  obtain ⟨v,H',e,q⟩:=h
  exact ⟨v,H',by unfold eSliceV; rw [hx]; exact e,q⟩
theorem w_fun {cf:CallF} {f:Nat} {l:List EX} {ρ:Loc} {H:Hp} {Q:AV→Hp→Prop} (h:WA l ρ H fun vs H1=>vs.any isExt=false∧WC cf f vs H1 Q):W (eFun cf f l) ρ H Q:=by
  obtain ⟨vs,H1,e,h1,v,H',e2,q⟩:=h; exact ⟨v,H',oB_e e (ifn_e h1 e2),q⟩
theorem w_new {cf:CallF} {c f:Nat} {l:List EX} {ρ:Loc} {H:Hp} {Q:AV→Hp→Prop} (h:WA l ρ H fun vs H1=>vs.any isExt=false∧WC cf f (.ref H1.length::vs) (H1++[.inst c []]) fun v H2=>v=.none∧Q (.ref H1.length) H2):W (eNew cf c f l) ρ H Q:=by
  obtain ⟨vs,H1,e,h1,v,H',e2,rfl,q⟩:=h; exact ⟨_,H',oB_e e (ifn_e h1 (oNone_e e2 rfl)),q⟩
theorem w_blt {x:Str} {l:List EX} {ρ:Loc} {H:Hp} {Q:AV→Hp→Prop} (h:WA l ρ H fun vs H1=>∃ v H',blt x vs H1=some (v,H')∧Q v H'):W (eBlt x l) ρ H Q:=by
  obtain ⟨vs,H1,e,v,H',e2,q⟩:=h; exact ⟨v,H',oB_e e e2,q⟩
theorem ws_nil {ρ:Loc} {H:Hp} {Q:Fl→Loc→Hp→Prop} (q:Q .next ρ H):WS sNil ρ H Q:=⟨_,_,_,rfl,q⟩
theorem ws_seq {c d:SX} {ρ:Loc} {H:Hp} {Q:Fl→Loc→Hp→Prop} (h:WS c ρ H fun f ρ1 H1=>match f with
    | .next=>WS d ρ1 H1 Q
    | .ret v=>Q (.ret v) ρ1 H1):WS (sSeq c d) ρ H Q:=by
  obtain ⟨f,ρ1,H1,e,h⟩:=h
  cases f with
  | next=>obtain ⟨f',ρ',H',e',q⟩:=h; exact ⟨f',ρ',H',oF_n e e',q⟩
  | ret v=>exact ⟨_,ρ1,H1,oF_r e rfl,h⟩
theorem ws_ret {c:EX} {ρ:Loc} {H:Hp} {Q:Fl→Loc→Hp→Prop} (h:W c ρ H fun v H1=>Q (.ret v) ρ H1):WS (sRet c) ρ H Q:=by
  obtain ⟨v,H1,e,q⟩:=h; exact ⟨_,_,_,oB_e e rfl,q⟩
theorem ws_ret0 {ρ:Loc} {H:Hp} {Q:Fl→Loc→Hp→Prop} (q:Q (.ret .none) ρ H):WS sRet0 ρ H Q:=⟨_,_,_,rfl,q⟩
theorem ws_expr {c:EX} {ρ:Loc} {H:Hp} {Q:Fl→Loc→Hp→Prop} (h:W c ρ H fun v H1=>Q .next ρ H1):WS (sExpr c) ρ H Q:=by
  obtain ⟨v,H1,e,q⟩:=h; exact ⟨_,_,_,oB_e e rfl,q⟩
theorem ws_if {t:EX} {c d:SX} {ρ:Loc} {H:Hp} {Q:Fl→Loc→Hp→Prop} (h:W t ρ H fun x H1=>∃ b,x=.bool b∧if b then WS c ρ H1 Q else WS d ρ H1 Q):WS (sIf t c d) ρ H Q:=by
  obtain ⟨_,H1,e,b,rfl,h⟩:=h
  cases b
  · obtain ⟨f,ρ',H',e',q⟩:=h; exact ⟨f,ρ',H',oBool_e e e',q⟩
  · obtain ⟨f,ρ',H',e',q⟩:=h; exact ⟨f,ρ',H',oBool_e e e',q⟩
theorem ws_assign {c:EX} {d:TX} {ρ:Loc} {H:Hp} {Q:Fl→Loc→Hp→Prop} (h:W c ρ H fun v H1=>WT d v ρ H1 fun ρ1 H2=>Q .next ρ1 H2):WS (sAssign c d) ρ H Q:=by
  obtain ⟨v,H1,e,ρ1,H2,e2,q⟩:=h; exact ⟨_,_,_,oB_e e (oB_e e2 rfl),q⟩
theorem wt_var {x:Str} {v:AV} {ρ:Loc} {H:Hp} {Q:Loc→Hp→Prop} (hv:isExt v=false) (q:Q (upL ρ x v) H):WT (tVar x) v ρ H Q:=⟨_,_,ifn_e hv rfl,q⟩
theorem wt_attr {c:EX} {x:Str} {v:AV} {ρ:Loc} {H:Hp} {Q:Loc→Hp→Prop} (h:W c ρ H fun o H1=>∃ k cls fs,o=.ref k∧H1[k]?=some (.inst cls fs)∧(atab.any (fun q=>q.1 == cls && q.2.contains x) && fs.length<900)=true∧Q ρ (H1.set k (.inst cls (fput x v fs)))):WT (tAttr c x) v ρ H Q:=by
  obtain ⟨_,H1,e,k,cls,fs,rfl,h1,h2,q⟩:=h
  exact ⟨_,_,oB_e e (map_e (atInst_e h1 (if_pos h2))),q⟩
theorem wc_run {k f:Nat} {vs:List AV} {H:Hp} {Q:AV→Hp→Prop} {names:List Str} {d:Option AV} {b:CallF→SX} (hc:∀ (k:Nat) (vs:List AV) (H:Hp),callF (k+1) f vs H=runV names d (b (callF k)) vs H) {vs1:List AV} (hf:fillV d names.length vs=some vs1)
    (h:WS (b (callF k)) (locOf (names.zip vs1)) H fun fl ρ H'=>match fl with
      | .ret v=>Q v H'
      | .next=>Q .none H'):WC (callF (k+1)) f vs H Q:=by
  obtain ⟨fl,ρ,H',e,q⟩:=h
  cases fl with
  | ret v=>exact ⟨v,H',(hc k vs H).trans (bind_e hf (oF_r e rfl)),q⟩
  | next=>exact ⟨.none,H',(hc k vs H).trans (bind_e hf (oF_n e rfl)),q⟩
theorem get_app {H t:Hp} {k:Nat} {o:AO} (h:H[k]?=some o):(H++t)[k]?=some o:=by
  rw [List.getElem?_append_left (List.getElem?_eq_some_iff.mp h).1]; exact h
theorem get_new {H t:Hp}:(H++t)[H.length]?=t[0]?:=by rw [List.getElem?_append_right (Nat.le_refl _),Nat.sub_self]
end Mine
end
section
open PySem PySem.W
set_option Elab.async false
set_option linter.all false
set_option autoImplicit false
namespace Mine
theorem dec_iff {p q:Prop} {i:Decidable p} {j:Decidable q} (h:p↔q):@decide p i=@decide q j:=by
  by_cases hq:q
  · rw [@decide_eq_true q j hq,@decide_eq_true p i (h.mpr hq)]
  · rw [@decide_eq_false q j hq,@decide_eq_false p i (fun x=>hq (h.mp x))]
theorem dat_ints {H:Hp} {n:Nat}:∀ l:List Int,datAll (datOf H n) (l.map .int)=some (l.map .int)
  | []=>rfl
  | i::l=>by
    show (datOf H n (.int i)).bind (fun d=>(datAll (datOf H n) (l.map .int)).map (d::·))=_
    rw [dat_ints l]
    cases n <;> rfl
theorem dat_list {H:Hp} {n k:Nat} {l:List Int} (h:H[k]?=some (.list (l.map .int))):datOf H (n+1) (.ref k)=some (.list (l.map .int)):=by
  show datRef (datOf H n) H[k]?=_
  rw [h]
  show (datAll (datOf H n) (l.map .int)).map Dat.list=_
  rw [dat_ints]; rfl
theorem dint_inj {l m:List Int}:(Dat.list (l.map .int)=Dat.list (m.map .int))↔l=m:=by
  constructor
  · intro h
    injection h with h
    exact List.map_inj_right (fun x y e=>by injection e) |>.mp h
  · rintro rfl; rfl
theorem eq_ints {H:Hp} {a b:Nat} {l m:List Int} (ha:H[a]?=some (.list (l.map .int))) (hb:H[b]?=some (.list (m.map .int))):eqD H (.ref a) (.ref b)=some (decide (l=m)):=by
  unfold eqD
  rw [dat_list ha,dat_list hb]
  exact congrArg some (dec_iff dint_inj)
theorem dat_int {H:Hp} {n:Nat} {i:Int}:datOf H n (.int i)=some (.int i):=by cases n <;> rfl
theorem eq_int {H:Hp} {i j:Int}:eqD H (.int i) (.int j)=some (decide (i=j)):=by
  unfold eqD
  rw [dat_int,dat_int]
  exact congrArg some (dec_iff ⟨fun h=>by injection h,fun h=>by rw [h]⟩)
end Mine
end
section
open PySem PySem.W
set_option Elab.async false
set_option linter.all false
set_option autoImplicit false
namespace Mine
noncomputable def pickI (l:List Int) (lo hi:Option Int):List Int:=(l.drop (kms_lo lo l.length)).take (kms_hi hi l.length - kms_lo lo l.length)
theorem pick_ints {l:List Int} {lo hi:Option Int}:pick (l.map .int) lo hi=(pickI l lo hi).map .int:=by
  unfold pick pickI; simp [List.map_take,List.map_drop]
theorem slice_ints {H:Hp} {a:Nat} {l:List Int} {x y:AV} {lo hi:Option Int} (ha:H[a]?=some (.list (l.map .int))) (hl:l.length≤1000000) (hx:part x=some lo) (hy:part y=some hi) :
    slice (.ref a) x y H=some (.ref H.length,H++[.list ((pickI l lo hi).map .int)]):=
  bind_e hx (bind_e hy (atList_e ha (ift_e (by rw [List.length_map]; exact hl) (by rw [pick_ints]))))
theorem len_list {H:Hp} {a:Nat} {xs:List AV} (ha:H[a]?=some (.list xs)) (hl:xs.length≤1000000):blt "len" [.ref a] H=some (.int xs.length,H):=
  ift_e (c:=(("len" : Str) == ("len" : Str))=true) rfl (atList_e ha (if_pos hl))
noncomputable def standsAt (cs ws:List Int) (i:Int):Bool:=decide (ws≠[]) && decide (pickI cs (some i) (some (i+ws.length))=ws)
theorem c_69 {k:Nat} {H:Hp} {a b:Nat} {cs ws:List Int} {i:Int} (ha:H[a]?=some (.list (cs.map .int))) (hb:H[b]?=some (.list (ws.map .int))) (l1:cs.length≤1000000) (l2:ws.length≤1000000) {Q:AV→Hp→Prop}
    (q:∀ t,Q (.bool (standsAt cs ws i)) (H++t)):WC (callF (k+1)) 69 [.ref a,.ref b,.int i] H Q:=by
  refine wc_run call_69 (vs1:=[.ref a,.ref b,.int i]) rfl ?_
  have r1:locOf ((["codes", "wanted", "at"]:List Str).zip [AV.ref a,AV.ref b,AV.int i]) "codes" = some (.ref a):=by rfl
  have r2:locOf ((["codes", "wanted", "at"]:List Str).zip [AV.ref a,AV.ref b,AV.int i]) "wanted" = some (.ref b):=by rfl
  have r3:locOf ((["codes", "wanted", "at"]:List Str).zip [AV.ref a,AV.ref b,AV.int i]) "at" = some (.int i):=by rfl
  generalize locOf ((["codes", "wanted", "at"]:List Str).zip [AV.ref a,AV.ref b,AV.int i])=ρ at r1 r2 r3 ⊢
  refine ws_seq (ws_ret (w_all (w_cmp (w_var r2 (w_list (wa_nil ⟨by simp,?_⟩))))))
  have e0:eqD (H++[.list []]) (.ref b) (.ref H.length)=some (decide (ws=[])):=eq_ints (m:=[]) (get_app hb) (by rw [get_new]; rfl)
  refine ⟨!decide (ws=[]),map_e e0,_,rfl,?_⟩
  by_cases hw:ws=[]
  · subst hw
    simp only [decide_true,Bool.not_true,Bool.false_eq_true,if_false]
    exact q _
  · simp only [hw,decide_false,Bool.not_false,if_true]
    refine w_all1 (w_cmp (w_sliceV r1 (w_slice (w_var r1 (w_part (w_var r3 (w_part (w_bin (w_var r3 (w_blt (wa_cons (w_var r2 (wa_nil ?_)))))))))))))
    refine ⟨_,_,len_list (get_app hb) (by simpa using l2),_,_,rfl,?_⟩
    refine ⟨_,_,slice_ints (get_app ha) l1 rfl rfl,?_⟩
    refine w_var r2 ?_
    have e1:∀ (H1:Hp),H1=H++[AO.list []]→eqD (H1++[.list ((pickI cs (some i) (some (i+(ws.map AV.int).length))).map .int)]) (.ref H1.length) (.ref b)=some (decide (pickI cs (some i) (some (i+ws.length))=ws)):=fun H1 h=>by
      subst h
      refine eq_ints (by rw [get_new]; simp) (get_app (get_app hb))
    refine ⟨_,e1 _ rfl,_,rfl,?_⟩
    have:=q ([.list []]++[.list ((pickI cs (some i) (some (i+(ws.map AV.int).length))).map .int)])
    rw [← List.append_assoc] at this
    simpa [standsAt,hw] using this
end Mine
end
section
open PySem PySem.W
set_option Elab.async false
set_option linter.all false
set_option autoImplicit false
namespace Mine
theorem forGo_list {d:TX} {b:SX} {k n:Nat} {I:Nat→Loc→Hp→Prop} {Q:Fl→Loc→Hp→Prop} (hI:∀ i ρ H,I i ρ H→i≤n∧∃ xs,H[k]?=some (.list xs)∧match xs[i]? with
      | some x=>WT d x ρ H fun ρ1 H2=>WS b ρ1 H2 fun f ρ2 H3=>match f with
        | .next=>I (i+1) ρ2 H3
        | .ret v=>Q (.ret v) ρ2 H3
      | none=>Q .next ρ H) :
    ∀ (m i:Nat) (ρ:Loc) (H:Hp),I i ρ H→n - i<m→WS (forGo d b m (.list k i)) ρ H Q:=by
  intro m
  induction m with
  | zero=>intro i ρ H _ h; omega
  | succ m ih=>
    intro i ρ H hi hm
    obtain ⟨hn,xs,h1,h2⟩:=hI i ρ H hi
    cases hx:xs[i]? with
    | none=>
      rw [hx] at h2
      exact ⟨_,_,_,oN_n (atList_e h1 (by rw [hx]; rfl)) rfl,h2⟩
    | some x=>
      rw [hx] at h2
      obtain ⟨ρ1,H2,e1,f,ρ2,H3,e2,h3⟩:=h2
      cases f with
      | ret v=>exact ⟨_,_,_,oN_s (atList_e h1 (by rw [hx]; rfl)) (oB_e e1 (oF_r e2 rfl)),h3⟩
      | next=>
        obtain ⟨f',ρ',H',e',q⟩:=ih (i+1) ρ2 H3 h3 (by have:=(hI (i+1) ρ2 H3 h3).1; lia)
        exact ⟨f',ρ',H',oN_s (atList_e h1 (by rw [hx]; rfl)) (oB_e e1 (oF_n e2 e')),q⟩
theorem ws_forL {c:EX} {d:TX} {b:SX} {ρ:Loc} {H:Hp} {Q:Fl→Loc→Hp→Prop} (n:Nat) (hn:n<1000000) (h:W c ρ H fun v H1=>∃ k xs,v=.ref k∧H1[k]?=some (.list xs)∧∃ I:Nat→Loc→Hp→Prop,I 0 ρ H1∧
      ∀ i ρ H,I i ρ H→i≤n∧∃ xs,H[k]?=some (.list xs)∧match xs[i]? with
      | some x=>WT d x ρ H fun ρ1 H2=>WS b ρ1 H2 fun f ρ2 H3=>match f with
        | .next=>I (i+1) ρ2 H3
        | .ret v=>Q (.ret v) ρ2 H3
      | none=>Q .next ρ H):WS (sFor (iList c) d b) ρ H Q:=by
  obtain ⟨_,H1,e,k,xs,rfl,h1,I,h2,h3⟩:=h
  obtain ⟨f,ρ',H',e',q⟩:=forGo_list h3 fuelN 0 ρ H1 h2 (by unfold fuelN; lia)
  exact ⟨f,ρ',H',oB_e (oRef_e e (atList_e h1 rfl)) e',q⟩
theorem whileGo_inv {t:EX} {b:SX} {I:Nat→Loc→Hp→Prop} {Q:Fl→Loc→Hp→Prop} (hI:∀ i ρ H,I i ρ H→W t ρ H fun v H1=>∃ c,v=.bool c∧if c then WS b ρ H1 (fun f ρ2 H3=>match f with
        | .next=>∃ j,j<i∧I j ρ2 H3
        | .ret v=>Q (.ret v) ρ2 H3) else Q .next ρ H1) :
    ∀ (m i:Nat) (ρ:Loc) (H:Hp),I i ρ H→i<m→WS (whileGo t b m) ρ H Q:=by
  intro m
  induction m with
  | zero=>intro i ρ H _ h; omega
  | succ m ih=>
    intro i ρ H hi hm
    obtain ⟨_,H1,e,c,rfl,h⟩:=hI i ρ H hi
    cases c with
    | false=>exact ⟨_,_,_,oBool_e e rfl,h⟩
    | true=>
      obtain ⟨f,ρ2,H3,e2,h3⟩:=h
      cases f with
      | ret v=>exact ⟨_,_,_,oBool_e e (oF_r e2 rfl),h3⟩
      | next=>
        obtain ⟨j,hj,h4⟩:=h3
        obtain ⟨f',ρ',H',e',q⟩:=ih j ρ2 H3 h4 (by lia)
        exact ⟨f',ρ',H',oBool_e e (oF_n e2 e'),q⟩
theorem ws_while {t:EX} {b:SX} {ρ:Loc} {H:Hp} {Q:Fl→Loc→Hp→Prop} (I:Nat→Loc→Hp→Prop) (n:Nat) (hn:n<1000000) (h0:I n ρ H) (hI:∀ i ρ H,I i ρ H→W t ρ H fun v H1=>∃ c,v=.bool c∧if c then WS b ρ H1 (fun f ρ2 H3=>match f with
        | .next=>∃ j,j<i∧I j ρ2 H3
        | .ret v=>Q (.ret v) ρ2 H3) else Q .next ρ H1):WS (sWhile t b) ρ H Q:=
  whileGo_inv hI fuelN n ρ H h0 (by unfold fuelN; lia)
theorem forGo_range {d:TX} {b:SX} {I:Int→Int→Loc→Hp→Prop} {Q:Fl→Loc→Hp→Prop} (hI:∀ x l ρ H,I x l ρ H→if 0<l then WT d (.int x) ρ H (fun ρ1 H2=>WS b ρ1 H2 fun f ρ2 H3=>match f with
        | .next=>I (x+1) (l - 1) ρ2 H3
        | .ret v=>Q (.ret v) ρ2 H3) else Q .next ρ H) :
    ∀ (m:Nat) (x l:Int) (ρ:Loc) (H:Hp),I x l ρ H→l<m→0<m→WS (forGo d b m (.range x l)) ρ H Q:=by
  intro m
  induction m with
  | zero=>intro x l ρ H _ _ h; omega
  | succ m ih=>
    intro x l ρ H hi hm _
    have h2:=hI x l ρ H hi
    by_cases hl:0<l
    · rw [if_pos hl] at h2
      obtain ⟨ρ1,H2,e1,f,ρ2,H3,e2,h3⟩:=h2
      cases f with
      | ret v=>exact ⟨_,_,_,oN_s (congrArg some (if_pos hl)) (oB_e e1 (oF_r e2 rfl)),h3⟩
      | next=>
        obtain ⟨f',ρ',H',e',q⟩:=ih (x+1) (l - 1) ρ2 H3 h3 (by lia) (by lia)
        exact ⟨f',ρ',H',oN_s (congrArg some (if_pos hl)) (oB_e e1 (oF_n e2 e')),q⟩
    · rw [if_neg hl] at h2
      exact ⟨_,_,_,oN_n (congrArg some (if_neg hl)) rfl,h2⟩
end Mine
end
section
open PySem PySem.W
set_option Elab.async false
set_option linter.all false
set_option autoImplicit false
namespace Mine
theorem w_meth {cf:CallF} {c:EX} {name:Str} {l:List EX} {ρ:Loc} {H:Hp} {Q:AV→Hp→Prop} (h:W c ρ H fun v H1=>∃ k cls fs q,v=.ref k∧H1[k]?=some (.inst cls fs)∧fget name fs=none∧mtab.find? (fun q=>q.1 == cls && q.2.1 == name)=some q∧
      WA l ρ H1 fun vs H2=>vs.any isExt=false∧WC cf q.2.2 (.ref k::vs) H2 Q):W (eMeth cf c name l) ρ H Q:=by
  obtain ⟨_,H1,e,k,cls,fs,q,rfl,h1,h2,h3,vs,H2,e2,h4,v,H',e3,h5⟩:=h
  exact ⟨v,H',oRef_e e (atIL_e h1 (ift_e h2 (bind_e h3 (oB_e e2 (ifn_e h4 e3))))),h5⟩
theorem w_append {cf:CallF} {c a:EX} {ρ:Loc} {H:Hp} {Q:AV→Hp→Prop} (h:W c ρ H fun v H1=>∃ k xs,v=.ref k∧H1[k]?=some (.list xs)∧W a ρ H1 fun x H2=>∃ ys,H2[k]?=some (.list ys)∧ys.length≤999999∧Q .none (H2.set k (.list (ys++[x])))):W (eMeth cf c "append" [a]) ρ H Q:=by
  obtain ⟨_,H1,e,k,xs,rfl,h1,x,H2,e2,ys,h2,h3,q⟩:=h
  exact ⟨_,_,oRef_e e (atIL_l h1 (oB_e (oB_e e2 rfl) (atList_e h2 (ift_e h3 rfl)))),q⟩
theorem w_pop {cf:CallF} {c a:EX} {ρ:Loc} {H:Hp} {Q:AV→Hp→Prop} (h:W c ρ H fun v H1=>∃ k xs,v=.ref k∧H1[k]?=some (.list xs)∧W a ρ H1 fun x H2=>∃ y ys,x=.int 0∧H2[k]?=some (.list (y::ys))∧(y::ys).length≤999999∧Q y (H2.set k (.list ys))):W (eMeth cf c "pop" [a]) ρ H Q:=by
  obtain ⟨_,H1,e,k,xs,rfl,h1,x,H2,e2,y,ys,rfl,h2,h3,q⟩:=h
  exact ⟨_,_,oRef_e e (atIL_l h1 (oB_e (oB_e e2 rfl) (atList_e h2 (ift_e h3 rfl)))),q⟩
theorem w_count {cf:CallF} {c a:EX} {ρ:Loc} {H:Hp} {Q:AV→Hp→Prop} (h:W c ρ H fun v H1=>∃ k xs,v=.ref k∧H1[k]?=some (.list xs)∧W a ρ H1 fun x H2=>∃ (i:Int) (l:List Int),x=.int i∧H2[k]?=some (.list (l.map .int))∧l.length≤999999∧Q (.int (l.count i)) H2):W (eMeth cf c "count" [a]) ρ H Q:=by
  obtain ⟨_,H1,e,k,xs,rfl,h1,x,H2,e2,i,l,rfl,h2,h3,q⟩:=h
  exact ⟨_,_,oRef_e e (atIL_l h1 (oB_e (oB_e e2 rfl) (atList_e h2 (ift_e (by rw [List.length_map]; exact h3) (iff_e (by decide) (iff_e (by decide) (ift_e rfl (map_e (intsOf_map l))))))))),q⟩
theorem wt_idx {c d:EX} {v:AV} {ρ:Loc} {H:Hp} {Q:Loc→Hp→Prop} (h:W c ρ H fun o H1=>W d ρ H1 fun i H2=>∃ k n xs,o=.ref k∧i=.int n∧H2[k]?=some (.list xs)∧xs.length≤1000000∧0≤n∧n<xs.length∧Q ρ (H2.set k (.list (xs.set n.toNat v)))):WT (tIdx c d) v ρ H Q:=by
  obtain ⟨_,H1,e,_,H2,e2,k,n,xs,rfl,rfl,h1,h2,h3,h4,q⟩:=h
  exact ⟨_,_,oB_e e (oB_e e2 (map_e (atList_e h1 (ift_e h2 (map_e (if_pos ⟨h3,h4⟩)))))),q⟩
theorem wt_slice {c:EX} {lo hi:Option EX} {v:AV} {ρ:Loc} {H:Hp} {Q:Loc→Hp→Prop} (h:W c ρ H fun o H1=>W (ePart lo) ρ H1 fun l H2=>W (ePart hi) ρ H2 fun u H3=>∃ H4,setSl o l u v H3=some H4∧Q ρ H4):WT (tSlice c lo hi) v ρ H Q:=by
  obtain ⟨o,H1,e,l,H2,e2,u,H3,e3,H4,e4,q⟩:=h
  exact ⟨_,_,oB_e e (oB_e e2 (oB_e e3 (map_e e4))),q⟩
noncomputable def WTs (ds:List TX) (vs:List AV) (ρ:Loc) (H:Hp) (Q:Loc→Hp→Prop):Prop:=∃ ρ' H',tSeq ds vs ρ H=some (ρ',H')∧Q ρ' H'
theorem wts_nil {ρ:Loc} {H:Hp} {Q:Loc→Hp→Prop} (q:Q ρ H):WTs [] [] ρ H Q:=⟨_,_,rfl,q⟩
theorem wts_cons {d:TX} {ds:List TX} {v:AV} {vs:List AV} {ρ:Loc} {H:Hp} {Q:Loc→Hp→Prop} (h:WT d v ρ H fun ρ1 H1=>WTs ds vs ρ1 H1 Q):WTs (d::ds) (v::vs) ρ H Q:=by
  obtain ⟨ρ1,H1,e,ρ',H',e2,q⟩:=h; exact ⟨ρ',H',oB_e e e2,q⟩
theorem wt_tup {ds:List TX} {k:Nat} {xs:List AV} {ρ:Loc} {H:Hp} {Q:Loc→Hp→Prop} (hk:H[k]?=some (.tup xs)) (h:WTs ds xs ρ H Q):WT (tTup ds) (.ref k) ρ H Q:=by
  obtain ⟨ρ',H',e,q⟩:=h; exact ⟨ρ',H',atTup_e hk e,q⟩
theorem ws_swap {c:EX} {names:List Str} {ρ:Loc} {H:Hp} {Q:Fl→Loc→Hp→Prop} (h:W c ρ H fun v H1=>∃ k xs,v=.ref k∧H1[k]?=some (.tup xs)∧WTs (names.reverse.map tVar) xs.reverse ρ H1 fun ρ1 H2=>Q .next ρ1 H2):WS (sSwapV c names) ρ H Q:=by
  obtain ⟨_,H1,e,k,xs,rfl,h1,ρ1,H2,e2,q⟩:=h
  exact ⟨_,_,_,oRef_e e (atTup_e h1 (oB_e e2 rfl)),q⟩
theorem ws_assignV {x:Str} {c:EX} {ρ:Loc} {H:Hp} {Q:Fl→Loc→Hp→Prop} (h:W c ρ H fun v H1=>isExt v=false∧Q .next (upL ρ x v) H1):WS (sAssignV x c) ρ H Q:=by
  obtain ⟨v,H1,e,h1,q⟩:=h
  exact ⟨_,_,_,oB_e e (oB_e (ifn_e h1 rfl) rfl),q⟩
end Mine
end
section
open PySem PySem.W
set_option Elab.async false
set_option linter.all false
set_option autoImplicit false
namespace Mine
structure SignsAt (H:Hp) (k:Nat):Prop where
  ob:∃ q ls st en l1,H[k]?=some (.inst 58 [("quotes",.ref q),("escape",.int 92),("line_starts",.ref ls),("start",.ref st),("end",.ref en),("nests",.bool true)])∧
    H[q]?=some (.list [.int 34])∧H[ls]?=some (.list [.ref l1])∧H[l1]?=some (.list [.int 59])∧H[st]?=some (.list [.int 47,.int 42])∧H[en]?=some (.list [.int 42,.int 47])
theorem c_76 {k:Nat} {H:Hp} {sg cd:Nat} {cs:List Int} {i:Int} (hs:SignsAt H sg) (hc:H[cd]?=some (.list (cs.map .int))) (l1:cs.length≤1000000) {Q:AV→Hp→Prop}
    (q:∀ t,Q (.bool (standsAt cs [59] i)) (H++t)):WC (callF (k+2)) 76 [.ref sg,.ref cd,.int i] H Q:=by
  refine wc_run call_76 (vs1:=[.ref sg,.ref cd,.int i]) rfl ?_
  have r1:locOf ((["signs", "codes", "at"]:List Str).zip [AV.ref sg,AV.ref cd,AV.int i]) "signs" = some (.ref sg):=by rfl
  have r2:locOf ((["signs", "codes", "at"]:List Str).zip [AV.ref sg,AV.ref cd,AV.int i]) "codes" = some (.ref cd):=by rfl
  have r3:locOf ((["signs", "codes", "at"]:List Str).zip [AV.ref sg,AV.ref cd,AV.int i]) "at" = some (.int i):=by rfl
  generalize locOf ((["signs", "codes", "at"]:List Str).zip [AV.ref sg,AV.ref cd,AV.int i])=ρ at r1 r2 r3 ⊢
  obtain ⟨qq,ls,st,en,a1,h1,h2,h3,h4,h5,h6⟩:=hs.ob
  refine ws_seq (ws_forL 1 (by decide) (w_attr (w_var r1 ⟨_,_,_,_,rfl,h1,by rfl,_,_,rfl,h3,?_⟩)))
  refine ⟨fun n ρ' H'=>(n=0∧ρ'=ρ∧H'=H)∨(n=1∧standsAt cs [59] i=false∧∃ t,H'=H++t),.inl ⟨rfl,rfl,rfl⟩,?_⟩
  rintro n ρ' H' (⟨rfl,rfl,rfl⟩ | ⟨rfl,hf,t,rfl⟩)
  · refine ⟨by decide,_,h3,?_⟩
    show WT (tVar "wanted") (.ref a1) ρ' H' _
    refine wt_var rfl (ws_seq (ws_if (w_fun (wa_cons (w_var (v:=.ref cd) (by unfold upL; rw [if_neg (by decide)]; exact r2) (wa_cons (w_var (v:=.ref a1) (by unfold upL; rw [if_pos rfl]) (wa_cons (w_var (v:=.int i) (by unfold upL; rw [if_neg (by decide)]; exact r3) (wa_nil ⟨rfl,?_⟩))))))))))
    refine c_69 (ws:=[59]) hc h4 l1 (by decide) fun t=>?_
    refine ⟨_,rfl,?_⟩
    cases hst:standsAt cs [59] i with
    | true=>
      rw [if_pos rfl]
      refine ws_seq (ws_ret (w_bool ?_))
      have:=q t
      rwa [hst] at this
    | false=>
      rw [if_neg (by decide)]
      exact ws_nil (ws_nil (.inr ⟨rfl,rfl,t,rfl⟩))
  · refine ⟨Nat.le_refl _,_,get_app h3,?_⟩
    show WS _ _ _ _
    refine ws_seq (ws_ret (w_bool ?_))
    have:=q t
    rwa [hf] at this
end Mine
end
section
open PySem PySem.W
set_option Elab.async false
set_option linter.all false
set_option autoImplicit false
namespace Mine
noncomputable def scanOb (sg cd st:Nat) (at_ bg:Int) (sp:Nat):AO:=.inst 135 [("signs",.ref sg),("codes",.ref cd),("state",.ref st),("at",.int at_),("begun",.int bg),("spans",.ref sp)]
theorem get_set {H:Hp} {k:Nat} {o o':AO} (h:H[k]?=some o'):(H.set k o)[k]?=some o:=by
  rw [List.getElem?_set_self (List.getElem?_eq_some_iff.mp h).1]
theorem get_set_ne {H:Hp} {k j:Nat} {o o':AO} (h:H[j]?=some o') (n:k≠j):(H.set k o)[j]?=some o':=by
  rw [List.getElem?_set_ne n]; exact h
theorem c_104 {n k sg cd st sp st':Nat} {at_ bg:Int} {H:Hp} (h:H[k]?=some (scanOb sg cd st at_ bg sp)) {Q:AV→Hp→Prop} (q:Q .none (H.set k (scanOb sg cd st' at_ at_ sp))):WC (callF (n+1)) 104 [.ref k,.ref st'] H Q:=by
  refine wc_run call_104 (vs1:=[.ref k,.ref st']) rfl ?_
  have r1:locOf ((["self", "state"]:List Str).zip [AV.ref k,AV.ref st']) "self" = some (.ref k):=by rfl
  have r2:locOf ((["self", "state"]:List Str).zip [AV.ref k,AV.ref st']) "state" = some (.ref st'):=by rfl
  generalize locOf ((["self", "state"]:List Str).zip [AV.ref k,AV.ref st'])=ρ at r1 r2 ⊢
  refine ws_seq (ws_assign (w_attr (w_var r1 ⟨_,_,_,_,rfl,h,by rfl,wt_attr (w_var r1 ⟨_,_,_,rfl,h,by rfl,?_⟩)⟩)))
  refine ws_seq (ws_assign (w_var r2 (wt_attr (w_var r1 ⟨_,_,_,rfl,get_set h,by rfl,ws_nil ?_⟩))))
  rw [List.set_set]
  exact q
end Mine
end
section
open PySem PySem.W
set_option Elab.async false
set_option linter.all false
set_option autoImplicit false
namespace Mine
theorem idx_tup {H:Hp} {k:Nat} {xs:List AV} {i:Int} {v:AV} (h:H[k]?=some (.tup xs)) (hl:xs.length≤1000000) (e:pyIdx xs i=some v):idx (.ref k) (.int i) H=some v:=bind_e (o:=items H[k]?) (by rw [h]; rfl) (ift_e hl e)
theorem idx_list {H:Hp} {k:Nat} {xs:List AV} {i:Int} {v:AV} (h:H[k]?=some (.list xs)) (hl:xs.length≤1000000) (e:pyIdx xs i=some v):idx (.ref k) (.int i) H=some v:=bind_e (o:=items H[k]?) (by rw [h]; rfl) (ift_e hl e)
theorem c_97 {n k sg cd st sp:Nat} {at_ bg a0 b0:Int} {H:Hp} {xs:List AV} (h:H[k]?=some (scanOb sg cd st at_ bg sp)) (hst:H[st]?=some (.tup [.int a0,.int b0])) (hsp:H[sp]?=some (.list xs)) (hl:xs.length≤999999) {Q:AV→Hp→Prop}
    (q0:(a0=0∨at_≤bg)→Q .none H) (q1:a0≠0→bg<at_→Q .none ((H++[AO.tup [.int bg,.int at_,.int a0]]).set sp (AO.list (xs++[AV.ref H.length])))):WC (callF (n+1)) 97 [.ref k] H Q:=by
  refine wc_run call_97 (vs1:=[.ref k]) rfl ?_
  have r1:locOf ((["self"]:List Str).zip [AV.ref k]) "self" = some (.ref k):=by rfl
  generalize locOf ((["self"]:List Str).zip [AV.ref k])=ρ at r1 ⊢
  have i0:idx (.ref st) (.int 0) H=some (.int a0):=idx_tup hst (by simp) rfl
  refine ws_seq (ws_if (w_all (w_cmp (w_idx (w_attr (w_var r1 ⟨_,_,_,_,rfl,h,by rfl,w_int ⟨_,i0,w_int ⟨!decide (a0=0),map_e (eq_int (H:=H)),_,rfl,?_⟩⟩⟩)))))) 
  by_cases ha:a0=0
  · rw [if_neg (by simp [ha])]
    exact ⟨_,rfl,by rw [if_neg (by simp [ha])]; exact ws_nil (ws_nil (q0 (.inl ha)))⟩
  · rw [if_pos (by simp [ha])]
    refine w_all1 (w_cmp (w_attr (w_var r1 ⟨_,_,_,_,rfl,h,by rfl,w_attr (w_var r1 ⟨_,_,_,_,rfl,h,by rfl,decide (at_ > bg),rfl,_,rfl,_,rfl,?_⟩)⟩)))
    by_cases hb:bg<at_
    · rw [if_pos (by simpa using hb)]
      refine ws_seq (ws_expr (w_append (w_attr (w_var r1 ⟨_,_,_,_,rfl,h,by rfl,_,_,rfl,hsp,?_⟩))))
      refine w_tup (wa_cons (w_attr (w_var r1 ⟨_,_,_,_,rfl,h,by rfl,wa_cons (w_attr (w_var r1 ⟨_,_,_,_,rfl,h,by rfl,wa_cons (w_idx (w_attr (w_var r1 ⟨_,_,_,_,rfl,h,by rfl,w_int ⟨_,i0,wa_nil ⟨by simp,_,get_app hsp,hl,?_⟩⟩⟩)))⟩))⟩)))
      exact ws_nil (ws_nil (q1 ha hb))
    · rw [if_neg (by simpa using hb)]
      exact ws_nil (ws_nil (q0 (.inr (by omega))))
end Mine
end
section
open PySem PySem.W
set_option Elab.async false
set_option linter.all false
set_option autoImplicit false
namespace Mine
structure Sc where
  st:Int×Int
  at_:Int
  bg:Int
  sp:List (Int×Int×Int)
noncomputable def leaveS (s:Sc):Sc:=if s.st.1≠0∧s.bg<s.at_ then { s with sp:=s.sp++[(s.bg,s.at_,s.st.1)] } else s
noncomputable def enterS (s:Sc) (st:Int×Int):Sc:={ s with bg:=s.at_,st:=st }
noncomputable def codeAt (cs:List Int) (i:Int):Int:=cs.getD i.toNat 0
noncomputable def inCodeS (cs:List Int) (s:Sc):Sc:=
  if codeAt cs s.at_=92 then { s with at_:=s.at_+2 }
  else if standsAt cs [59] s.at_ then { s with sp:=s.sp++[(s.at_,(cs.length:Int),2)],at_:=cs.length }
  else if standsAt cs [47,42] s.at_ then { enterS s (2,1) with at_:=s.at_+2 }
  else if codeAt cs s.at_=34 then { enterS s (1,34) with at_:=s.at_+1 }
  else { s with at_:=s.at_+1 }
noncomputable def inStringS (cs:List Int) (s:Sc):Sc:=
  if codeAt cs s.at_=92 then { s with at_:=s.at_+2 }
  else if codeAt cs s.at_=s.st.2 then { leaveS { s with at_:=s.at_+1 } with st:=(0,0) }
  else { s with at_:=s.at_+1 }
noncomputable def inCommentS (cs:List Int) (s:Sc):Sc:=
  if standsAt cs [42,47] s.at_ then
    (if s.st.2 > 1 then { s with at_:=s.at_+2,st:=(2,s.st.2 - 1) } else { leaveS { s with at_:=s.at_+2 } with st:=(0,0) })
  else if standsAt cs [47,42] s.at_ then { s with at_:=s.at_+2,st:=(2,s.st.2+1) }
  else { s with at_:=s.at_+1 }
noncomputable def turnS (cs:List Int) (s:Sc):Sc:=if s.st.1=0 then inCodeS cs s else if s.st.1=1 then inStringS cs s else inCommentS cs s
noncomputable def goS (cs:List Int):Nat→Sc→Sc
  | 0,s=>s
  | n+1,s=>if s.at_<cs.length then goS cs n (turnS cs s) else s
noncomputable def scanS (cs:List Int) (st:Int×Int):(Int×Int)×List (Int×Int×Int):=
  let s:=leaveS { goS cs (cs.length+1) { st:=st,at_:=0,bg:=0,sp:=[] } with at_:=cs.length }
  (s.st,s.sp)
noncomputable def Trips (H:Hp):List AV→List (Int×Int×Int)→Prop
  | [],[]=>True
  | .ref r::xs,(a,b,c)::l=>H[r]?=some (.tup [.int a,.int b,.int c])∧Trips H xs l
  | _,_=>False
structure ScanIs (H:Hp) (k sg cd:Nat) (s:Sc):Prop where
  ob:∃ st sp xs,H[k]?=some (scanOb sg cd st s.at_ s.bg sp)∧k<sp∧H[st]?=some (.tup [.int s.st.1,.int s.st.2])∧H[sp]?=some (.list xs)∧Trips H xs s.sp
end Mine
end
section
open PySem PySem.W
set_option Elab.async false
set_option linter.all false
set_option autoImplicit false
namespace Mine
theorem upL_eq {ρ:Loc} {x:Str} {v:AV}:upL ρ x v x=some v:=if_pos rfl
theorem upL_ne {ρ:Loc} {x y:Str} {v w:AV} (n:(y == x)=false) (h:ρ y=some w):upL ρ x v y=some w:=by
  unfold upL; rw [if_neg (by intro e; rw [e] at n; simp at n)]; exact h
theorem get_new1 {H:Hp} {o:AO}:(H++[o])[H.length]?=some o:=by simp
theorem ite_both {c:Bool} {A B:Prop} (h1:c=true→A) (h0:c=false→B):if c then A else B:=by
  cases c
  · exact h0 rfl
  · exact h1 rfl
theorem x_ite_t {A B:Prop} (h:A):if true then A else B:=h
theorem x_ite_f {A B:Prop} (h:B):if false then A else B:=h
theorem x_tattr {H:Hp} {k cls:Nat} {fs:List (Str×AV)} {x:Str} {P:Nat→Nat→List (Str×AV)→Prop} (h:H[k]?=some (.inst cls fs)) (f:(atab.any (fun q=>q.1 == cls && q.2.contains x) && fs.length<900)=true) (q:P k cls fs) :
    ∃ k' cls fs,AV.ref k=.ref k'∧H[k']?=some (.inst cls fs)∧(atab.any (fun q=>q.1 == cls && q.2.contains x) && fs.length<900)=true∧P k' cls fs:=⟨k,cls,fs,rfl,h,f,q⟩
theorem x_meth {H:Hp} {k cls:Nat} {fs:List (Str×AV)} {name:Str} {P:Nat→Nat×Str×Nat→Prop} {q:Nat×Str×Nat} (h:H[k]?=some (.inst cls fs)) (f:fget name fs=none) (m:mtab.find? (fun q=>q.1 == cls && q.2.1 == name)=some q)
    (c:P k q):∃ k' cls fs q,AV.ref k=.ref k'∧H[k']?=some (.inst cls fs)∧fget name fs=none∧mtab.find? (fun q=>q.1 == cls && q.2.1 == name)=some q∧P k' q:=⟨k,cls,fs,q,rfl,h,f,m,c⟩
theorem x_bool {c:Bool} {Q:Bool→Prop} (q:Q c):∃ b,AV.bool c=.bool b∧Q b:=⟨c,rfl,q⟩
theorem x_none {P:Prop} (q:P):AV.none=AV.none∧P:=⟨rfl,q⟩
theorem x_intv {c:Int} {Q:Int→Prop} (q:Q c):∃ b,AV.int c=.int b∧Q b:=⟨c,rfl,q⟩
theorem x_neL {a b:Nat} {l m:List Int} {H:Hp} {Q:Bool→Prop} (ha:H[a]?=some (.list (l.map .int))) (hb:H[b]?=some (.list (m.map .int))) (q:Q (!decide (l=m))):∃ c,cmpop .NotEq (.ref a) (.ref b) H=some c∧Q c:=⟨_,map_e (eq_ints ha hb),q⟩
theorem x_idx {a i v:AV} {H:Hp} {Q:AV→Prop} (e:idx a i H=some v) (q:Q v):∃ v,idx a i H=some v∧Q v:=⟨v,e,q⟩
theorem x_idxL {k:Nat} {xs:List AV} {i:Int} {v:AV} {H:Hp} {Q:AV→Prop} (h:H[k]?=some (.list xs)) (hl:xs.length≤1000000) (e:pyIdx xs i=some v) (q:Q v):∃ v,idx (.ref k) (.int i) H=some v∧Q v:=⟨v,idx_list h hl e,q⟩
theorem x_app {H:Hp} {k:Nat} {xs:List AV} {P:Nat→Prop} (h:H[k]?=some (.list xs)) (c:P k):∃ k' xs,AV.ref k=.ref k'∧H[k']?=some (.list xs)∧P k':=⟨k,xs,rfl,h,c⟩
theorem x_app2 {H:Hp} {k:Nat} {ys:List AV} {P:List AV→Prop} (h:H[k]?=some (.list ys)) (hl:ys.length≤999999) (q:P ys):∃ ys,H[k]?=some (.list ys)∧ys.length≤999999∧P ys:=⟨ys,h,hl,q⟩
noncomputable def oget (n:Str):AO→Option AV
  | .inst _ fs=>fget n fs
  | _=>none
noncomputable def oput (n:Str) (v:AV):AO→AO
  | .inst c fs=>.inst c (fput n v fs)
  | o=>o
noncomputable def oset (n:Str):AO→Bool
  | .inst c fs=>atab.any (fun q=>q.1 == c && q.2.contains n) && fs.length<900
  | _=>false
noncomputable def omet (n:Str):AO→Option (Nat×Str×Nat)
  | .inst c fs=>(match fget n fs with
    | none=>mtab.find? (fun q=>q.1 == c && q.2.1 == n)
    | some _=>none)
  | _=>none
noncomputable def otag:AO→Nat
  | .inst c _=>c+3
  | .list _=>0
  | .tup _=>1
  | .dict0=>2
theorem ne_tag {H:Hp} {a b:Nat} {o o':AO} (h1:H[a]?=some o) (h2:H[b]?=some o') (n:Nat.beq (otag o) (otag o')=false):a≠b:=fun e=>by
  subst e; rw [h1] at h2; cases h2; rw [Nat.beq_refl] at n; cases n
noncomputable def Cont3 (R P:Fl→Loc→Hp→Prop):Prop:=∀ f ρ H,P f ρ H→R f ρ H
theorem cont3 {R P:Fl→Loc→Hp→Prop} {f:Fl} {ρ:Loc} {H:Hp} (c:Cont3 R P) (h:P f ρ H):R f ρ H:=c _ _ _ h
theorem wsq {c d:SX} {ρ:Loc} {H:Hp} {Q:Fl→Loc→Hp→Prop} (h:∀ R,Cont3 R (fun f ρ1 H1=>match f with
    | .next=>WS d ρ1 H1 Q
    | .ret v=>Q (.ret v) ρ1 H1)→WS c ρ H R):WS (sSeq c d) ρ H Q:=ws_seq (h _ fun _ _ _ x=>x)
theorem ws_seqW {t:EX} {b d:SX} {ρ:Loc} {H:Hp} {Q:Fl→Loc→Hp→Prop} (h:WS (sWhile t b) ρ H fun f ρ1 H1=>match f with
    | .next=>WS d ρ1 H1 Q
    | .ret v=>Q (.ret v) ρ1 H1):WS (sSeq (sWhile t b) d) ρ H Q:=ws_seq h
theorem ws_seqF {t:IX} {e:TX} {b d:SX} {ρ:Loc} {H:Hp} {Q:Fl→Loc→Hp→Prop} (h:WS (sFor t e b) ρ H fun f ρ1 H1=>match f with
    | .next=>WS d ρ1 H1 Q
    | .ret v=>Q (.ret v) ρ1 H1):WS (sSeq (sFor t e b) d) ρ H Q:=ws_seq h
noncomputable def Cont2 (R P:Bool→Hp→Prop):Prop:=∀ b H,P b H→R b H
theorem cont2 {R P:Bool→Hp→Prop} {b:Bool} {H:Hp} (c:Cont2 R P) (h:P b H):R b H:=c _ _ h
theorem wif {t:EX} {c d:SX} {ρ:Loc} {H:Hp} {Q:Fl→Loc→Hp→Prop} (h:∀ R,Cont2 R (fun b H1=>if b then WS c ρ H1 Q else WS d ρ H1 Q)→W t ρ H fun x H1=>∃ b,x=.bool b∧R b H1):WS (sIf t c d) ρ H Q:=ws_if (h _ fun _ _ x=>x)
theorem wiff {t c d:EX} {ρ:Loc} {H:Hp} {Q:AV→Hp→Prop} (h:∀ R,Cont2 R (fun b H1=>if b then W c ρ H1 Q else W d ρ H1 Q)→W t ρ H fun x H1=>∃ b,x=.bool b∧R b H1):W (eIf t c d) ρ H Q:=w_if (h _ fun _ _ x=>x)
theorem WS.cont {c:SX} {ρ:Loc} {H:Hp} {R P:Fl→Loc→Hp→Prop} (k:Cont3 R P) (h:WS c ρ H P):WS c ρ H R:=let ⟨f,ρ',H',e,q⟩:=h; ⟨f,ρ',H',e,k _ _ _ q⟩
noncomputable def Keep (M:List Nat) (H H':Hp):Prop:=∀ (j:Nat) (o:AO),j ∉ M→H[j]?=some o→H'[j]?=some o
theorem mem1 {a:Nat} {l:List Nat}:a∈a::l:=.head _
theorem mem2 {a b:Nat} {l:List Nat}:b∈a::b::l:=.tail _ (.head _)
theorem mem3 {a b c:Nat} {l:List Nat}:c∈a::b::c::l:=.tail _ (.tail _ (.head _))
theorem mem4 {a b c d:Nat} {l:List Nat}:d∈a::b::c::d::l:=.tail _ (.tail _ (.tail _ (.head _)))
theorem sub0 {N:List Nat}:∀ j∈([]:List Nat),j∈N:=fun _ h=>nomatch h
theorem sub1 {a:Nat} {N:List Nat} (h:a∈N):∀ j∈[a],j∈N:=fun j q=>by
  rcases List.mem_cons.mp q with rfl | q
  · exact h
  · cases q
theorem sub2 {a b:Nat} {N:List Nat} (h:a∈N) (k:b∈N):∀ j∈[a,b],j∈N:=fun j q=>by
  rcases List.mem_cons.mp q with rfl | q
  · exact h
  · exact sub1 k j q
theorem sub3 {a b c:Nat} {N:List Nat} (h:a∈N) (k:b∈N) (l:c∈N):∀ j∈[a,b,c],j∈N:=fun j q=>by
  rcases List.mem_cons.mp q with rfl | q
  · exact h
  · exact sub2 k l j q
theorem nin1 {a j:Nat} (h:j≠a):j ∉ [a]:=fun q=>by
  rcases List.mem_cons.mp q with q | q
  · exact h q
  · cases q
theorem nin2 {a b j:Nat} (h:j≠a) (k:j≠b):j ∉ [a,b]:=fun q=>by
  rcases List.mem_cons.mp q with q | q
  · exact h q
  · exact nin1 k q
theorem Keep.refl {M:List Nat} {H:Hp}:Keep M H H:=fun _ _ _ h=>h
theorem Keep.trans {M:List Nat} {H H1 H2:Hp} (a:Keep M H H1) (b:Keep M H1 H2):Keep M H H2:=fun j o n h=>b j o n (a j o n h)
theorem Keep.mono {M N:List Nat} {H H1:Hp} (a:Keep M H H1) (s:∀ j∈M,j∈N):Keep N H H1:=fun j o n h=>a j o (fun m=>n (s j m)) h
theorem Keep.app {M:List Nat} {H t:Hp}:Keep M H (H++t):=fun _ _ _ h=>get_app h
theorem Keep.set {M:List Nat} {H:Hp} {k:Nat} {o:AO} (m:k∈M):Keep M H (H.set k o):=fun j o' n h=>get_set_ne h (fun e=>n (e ▸ m))
theorem Keep.drop {M:List Nat} {H H':Hp} {k:Nat} (a:Keep (k::M) H H') (n:H[k]?=none):Keep M H H':=fun j o m h=>a j o (fun q=>by
  rcases List.mem_cons.mp q with rfl | q
  · rw [n] at h; cases h
  · exact m q) h
theorem ne_get {H:Hp} {a b:Nat} {o o':AO} (h1:H[a]?=some o) (h2:H[b]?=some o') (n:o≠o'):a≠b:=fun e=>by subst e; rw [h1] at h2; exact n (Option.some.inj h2)
theorem lt_get {H:Hp} {a:Nat} {o:AO} (h:H[a]?=some o):a<H.length:=(List.getElem?_eq_some_iff.mp h).1
theorem len_ne {H:Hp} {a:Nat} {o:AO} (h:H[a]?=some o):H.length≠a:=fun e=>Nat.lt_irrefl _ (e ▸ lt_get h)
theorem get_none {H:Hp} {k:Nat} (h:H.length≤k):H[k]?=none:=List.getElem?_eq_none h
end Mine
end
section
open PySem PySem.W
set_option Elab.async false
set_option linter.all false
set_option autoImplicit false
set_option maxRecDepth 4000
namespace Mine
theorem run_55 {k:Nat} {H:Hp} {Q:AV→Hp→Prop} {a0 a1 a2 a3 a4 a5 a6:AV} (h:∀ ρ:Loc,ρ "self" = some a0→ρ "quotes" = some a1→ρ "escape" = some a2→ρ "line_starts" = some a3→ρ "start" = some a4→ρ "end" = some a5→ρ "nests" = some a6→WS (b_55 (callF k)) ρ H fun fl _ H'=>match fl with
    | .ret v=>Q v H'
    | .next=>Q .none H'):WC (callF (k+1)) 55 [a0,a1,a2,a3,a4,a5,a6] H Q:=wc_run call_55 (vs1:=[a0,a1,a2,a3,a4,a5,a6]) rfl (h _ rfl rfl rfl rfl rfl rfl rfl)
theorem run_90 {k:Nat} {H:Hp} {Q:AV→Hp→Prop} {a0 a1 a2 a3:AV} (h:∀ ρ:Loc,ρ "self" = some a0→ρ "signs" = some a1→ρ "codes" = some a2→ρ "state" = some a3→WS (b_90 (callF k)) ρ H fun fl _ H'=>match fl with
    | .ret v=>Q v H'
    | .next=>Q .none H'):WC (callF (k+1)) 90 [a0,a1,a2,a3] H Q:=wc_run call_90 (vs1:=[a0,a1,a2,a3]) rfl (h _ rfl rfl rfl rfl)
theorem run_111 {k:Nat} {H:Hp} {Q:AV→Hp→Prop} {a0:AV} (h:∀ ρ:Loc,ρ "self" = some a0→WS (b_111 (callF k)) ρ H fun fl _ H'=>match fl with
    | .ret v=>Q v H'
    | .next=>Q .none H'):WC (callF (k+1)) 111 [a0] H Q:=wc_run call_111 (vs1:=[a0]) rfl (h _ rfl)
theorem run_118 {k:Nat} {H:Hp} {Q:AV→Hp→Prop} {a0:AV} (h:∀ ρ:Loc,ρ "self" = some a0→WS (b_118 (callF k)) ρ H fun fl _ H'=>match fl with
    | .ret v=>Q v H'
    | .next=>Q .none H'):WC (callF (k+1)) 118 [a0] H Q:=wc_run call_118 (vs1:=[a0]) rfl (h _ rfl)
theorem run_125 {k:Nat} {H:Hp} {Q:AV→Hp→Prop} {a0:AV} (h:∀ ρ:Loc,ρ "self" = some a0→WS (b_125 (callF k)) ρ H fun fl _ H'=>match fl with
    | .ret v=>Q v H'
    | .next=>Q .none H'):WC (callF (k+1)) 125 [a0] H Q:=wc_run call_125 (vs1:=[a0]) rfl (h _ rfl)
theorem run_132 {k:Nat} {H:Hp} {Q:AV→Hp→Prop} {a0:AV} (h:∀ ρ:Loc,ρ "self" = some a0→WS (b_132 (callF k)) ρ H fun fl _ H'=>match fl with
    | .ret v=>Q v H'
    | .next=>Q .none H'):WC (callF (k+1)) 132 [a0] H Q:=wc_run call_132 (vs1:=[a0]) rfl (h _ rfl)
theorem run_146 {k:Nat} {H:Hp} {Q:AV→Hp→Prop} {a0 a1 a2:AV} (h:∀ ρ:Loc,ρ "signs" = some a0→ρ "codes" = some a1→ρ "state" = some a2→WS (b_146 (callF k)) ρ H fun fl _ H'=>match fl with
    | .ret v=>Q v H'
    | .next=>Q .none H'):WC (callF (k+1)) 146 [a0,a1,a2] H Q:=wc_run call_146 (vs1:=[a0,a1,a2]) rfl (h _ rfl rfl rfl)
theorem run_160 {k:Nat} {H:Hp} {Q:AV→Hp→Prop} {a0 a1 a2:AV} (h:∀ ρ:Loc,ρ "self" = some a0→ρ "signs" = some a1→ρ "lines" = some a2→WS (b_160 (callF k)) ρ H fun fl _ H'=>match fl with
    | .ret v=>Q v H'
    | .next=>Q .none H'):WC (callF (k+1)) 160 [a0,a1,a2] H Q:=wc_run call_160 (vs1:=[a0,a1,a2]) rfl (h _ rfl rfl rfl)
theorem run_167 {k:Nat} {H:Hp} {Q:AV→Hp→Prop} {a0 a1 a2 a3 a4:AV} (h:∀ ρ:Loc,ρ "self" = some a0→ρ "lines" = some a1→ρ "first" = some a2→ρ "old_many" = some a3→ρ "new_many" = some a4→WS (b_167 (callF k)) ρ H fun fl _ H'=>match fl with
    | .ret v=>Q v H'
    | .next=>Q .none H'):WC (callF (k+1)) 167 [a0,a1,a2,a3,a4] H Q:=wc_run call_167 (vs1:=[a0,a1,a2,a3,a4]) rfl (h _ rfl rfl rfl rfl rfl)
theorem run_174 {k:Nat} {H:Hp} {Q:AV→Hp→Prop} {a0 a1:AV} (h:∀ ρ:Loc,ρ "self" = some a0→ρ "line" = some a1→WS (b_174 (callF k)) ρ H fun fl _ H'=>match fl with
    | .ret v=>Q v H'
    | .next=>Q .none H'):WC (callF (k+1)) 174 [a0,a1] H Q:=wc_run call_174 (vs1:=[a0,a1]) rfl (h _ rfl rfl)
theorem run_195 {k:Nat} {H:Hp} {Q:AV→Hp→Prop} {a0 a1 a2 a3 a4:AV} (h:∀ ρ:Loc,ρ "self" = some a0→ρ "group" = some a1→ρ "face" = some a2→ρ "way" = some a3→ρ "is_lax" = some a4→WS (b_195 (callF k)) ρ H fun fl _ H'=>match fl with
    | .ret v=>Q v H'
    | .next=>Q .none H'):WC (callF (k+1)) 195 [a0,a1,a2,a3,a4] H Q:=wc_run call_195 (vs1:=[a0,a1,a2,a3,a4]) rfl (h _ rfl rfl rfl rfl rfl)
theorem run_216 {k:Nat} {H:Hp} {Q:AV→Hp→Prop} {a0 a1 a2 a3:AV} (h:∀ ρ:Loc,ρ "self" = some a0→ρ "matcher" = some a1→ρ "marks" = some a2→ρ "anchored" = some a3→WS (b_216 (callF k)) ρ H fun fl _ H'=>match fl with
    | .ret v=>Q v H'
    | .next=>Q .none H'):WC (callF (k+1)) 216 [a0,a1,a2,a3] H Q:=wc_run call_216 (vs1:=[a0,a1,a2,a3]) rfl (h _ rfl rfl rfl rfl)
theorem run_228 {k:Nat} {H:Hp} {Q:AV→Hp→Prop} {a0 a1 a2 a3 a4:AV} (h:∀ ρ:Loc,ρ "faces" = some a0→ρ "start" = some a1→ρ "end" = some a2→ρ "face" = some a3→ρ "way" = some a4→WS (b_228 (callF k)) ρ H fun fl _ H'=>match fl with
    | .ret v=>Q v H'
    | .next=>Q .none H'):WC (callF (k+1)) 228 [a0,a1,a2,a3,a4] H Q:=wc_run call_228 (vs1:=[a0,a1,a2,a3,a4]) rfl (h _ rfl rfl rfl rfl rfl)
theorem run_235 {k:Nat} {H:Hp} {Q:AV→Hp→Prop} {a0 a1 a2:AV} (h:∀ ρ:Loc,ρ "faces" = some a0→ρ "groups" = some a1→ρ "marks" = some a2→WS (b_235 (callF k)) ρ H fun fl _ H'=>match fl with
    | .ret v=>Q v H'
    | .next=>Q .none H'):WC (callF (k+1)) 235 [a0,a1,a2] H Q:=wc_run call_235 (vs1:=[a0,a1,a2]) rfl (h _ rfl rfl rfl)
theorem run_242 {k:Nat} {H:Hp} {Q:AV→Hp→Prop} {a0 a1 a2 a3:AV} (h:∀ ρ:Loc,ρ "faces" = some a0→ρ "codes" = some a1→ρ "rule" = some a2→ρ "start" = some a3→WS (b_242 (callF k)) ρ H fun fl _ H'=>match fl with
    | .ret v=>Q v H'
    | .next=>Q .none H'):WC (callF (k+1)) 242 [a0,a1,a2,a3] H Q:=wc_run call_242 (vs1:=[a0,a1,a2,a3]) rfl (h _ rfl rfl rfl rfl)
theorem run_247 {k:Nat} {H:Hp} {Q:AV→Hp→Prop} {a0 a1 a2 a3 a4 a5:AV} (h:∀ ρ:Loc,ρ "signs" = some a0→ρ "rules" = some a1→ρ "codes" = some a2→ρ "state" = some a3→ρ "string_face" = some a4→ρ "comment_face" = some a5→WS (b_247 (callF k)) ρ H fun fl _ H'=>match fl with
    | .ret v=>Q v H'
    | .next=>Q .none H'):WC (callF (k+1)) 247 [a0,a1,a2,a3,a4,a5] H Q:=wc_run call_247 (vs1:=[a0,a1,a2,a3,a4,a5]) rfl (h _ rfl rfl rfl rfl rfl rfl)
theorem run_259 {k:Nat} {H:Hp} {Q:AV→Hp→Prop} {a0 a1 a2 a3 a4 a5:AV} (h:∀ ρ:Loc,ρ "self" = some a0→ρ "signs" = some a1→ρ "rules" = some a2→ρ "string_face" = some a3→ρ "comment_face" = some a4→ρ "lines" = some a5→WS (b_259 (callF k)) ρ H fun fl _ H'=>match fl with
    | .ret v=>Q v H'
    | .next=>Q .none H'):WC (callF (k+1)) 259 [a0,a1,a2,a3,a4,a5] H Q:=wc_run call_259 (vs1:=[a0,a1,a2,a3,a4,a5]) rfl (h _ rfl rfl rfl rfl rfl rfl)
theorem run_266 {k:Nat} {H:Hp} {Q:AV→Hp→Prop} {a0 a1 a2:AV} (h:∀ ρ:Loc,ρ "self" = some a0→ρ "lines" = some a1→ρ "line" = some a2→WS (b_266 (callF k)) ρ H fun fl _ H'=>match fl with
    | .ret v=>Q v H'
    | .next=>Q .none H'):WC (callF (k+1)) 266 [a0,a1,a2] H Q:=wc_run call_266 (vs1:=[a0,a1,a2]) rfl (h _ rfl rfl rfl)
theorem run_271 {k:Nat} {H:Hp} {Q:AV→Hp→Prop} {a0 a1 a2 a3:AV} (h:∀ ρ:Loc,ρ "self" = some a0→ρ "lines" = some a1→ρ "first" = some a2→ρ "last" = some a3→WS (b_271 (callF k)) ρ H fun fl _ H'=>match fl with
    | .ret v=>Q v H'
    | .next=>Q .none H'):WC (callF (k+1)) 271 [a0,a1,a2,a3] H Q:=wc_run call_271 (vs1:=[a0,a1,a2,a3]) rfl (h _ rfl rfl rfl rfl)
theorem run_278 {k:Nat} {H:Hp} {Q:AV→Hp→Prop} {a0 a1 a2 a3 a4:AV} (h:∀ ρ:Loc,ρ "self" = some a0→ρ "lines" = some a1→ρ "first" = some a2→ρ "old_many" = some a3→ρ "new_many" = some a4→WS (b_278 (callF k)) ρ H fun fl _ H'=>match fl with
    | .ret v=>Q v H'
    | .next=>Q .none H'):WC (callF (k+1)) 278 [a0,a1,a2,a3,a4] H Q:=wc_run call_278 (vs1:=[a0,a1,a2,a3,a4]) rfl (h _ rfl rfl rfl rfl rfl)
theorem run_299 {k:Nat} {H:Hp} {Q:AV→Hp→Prop} {a0:AV} (h:∀ ρ:Loc,ρ "code" = some a0→WS (b_299 (callF k)) ρ H fun fl _ H'=>match fl with
    | .ret v=>Q v H'
    | .next=>Q .none H'):WC (callF (k+1)) 299 [a0] H Q:=wc_run call_299 (vs1:=[a0]) rfl (h _ rfl)
theorem run_313 {k:Nat} {H:Hp} {Q:AV→Hp→Prop} {a0 a1:AV} (h:∀ ρ:Loc,ρ "self" = some a0→ρ "words" = some a1→WS (b_313 (callF k)) ρ H fun fl _ H'=>match fl with
    | .ret v=>Q v H'
    | .next=>Q .none H'):WC (callF (k+1)) 313 [a0,a1] H Q:=wc_run call_313 (vs1:=[a0,a1]) rfl (h _ rfl rfl)
theorem run_320 {k:Nat} {H:Hp} {Q:AV→Hp→Prop} {a0 a1 a2 a3:AV} (h:∀ ρ:Loc,ρ "self" = some a0→ρ "codes" = some a1→ρ "start" = some a2→ρ "end" = some a3→WS (b_320 (callF k)) ρ H fun fl _ H'=>match fl with
    | .ret v=>Q v H'
    | .next=>Q .none H'):WC (callF (k+1)) 320 [a0,a1,a2,a3] H Q:=wc_run call_320 (vs1:=[a0,a1,a2,a3]) rfl (h _ rfl rfl rfl rfl)
theorem run_341 {k:Nat} {H:Hp} {Q:AV→Hp→Prop} {a0 a1 a2:AV} (h:∀ ρ:Loc,ρ "self" = some a0→ρ "codes" = some a1→ρ "room" = some a2→WS (b_341 (callF k)) ρ H fun fl _ H'=>match fl with
    | .ret v=>Q v H'
    | .next=>Q .none H'):WC (callF (k+1)) 341 [a0,a1,a2] H Q:=wc_run call_341 (vs1:=[a0,a1,a2]) rfl (h _ rfl rfl rfl)
theorem run_348 {k:Nat} {H:Hp} {Q:AV→Hp→Prop} {a0:AV} (h:∀ ρ:Loc,ρ "self" = some a0→WS (b_348 (callF k)) ρ H fun fl _ H'=>match fl with
    | .ret v=>Q v H'
    | .next=>Q .none H'):WC (callF (k+1)) 348 [a0] H Q:=wc_run call_348 (vs1:=[a0]) rfl (h _ rfl)
theorem run_362 {k:Nat} {H:Hp} {Q:AV→Hp→Prop} {a0 a1 a2:AV} (h:∀ ρ:Loc,ρ "self" = some a0→ρ "start" = some a1→ρ "end" = some a2→WS (b_362 (callF k)) ρ H fun fl _ H'=>match fl with
    | .ret v=>Q v H'
    | .next=>Q .none H'):WC (callF (k+1)) 362 [a0,a1,a2] H Q:=wc_run call_362 (vs1:=[a0,a1,a2]) rfl (h _ rfl rfl rfl)
theorem run_369 {k:Nat} {H:Hp} {Q:AV→Hp→Prop} {a0 a1:AV} (h:∀ ρ:Loc,ρ "self" = some a0→ρ "at" = some a1→WS (b_369 (callF k)) ρ H fun fl _ H'=>match fl with
    | .ret v=>Q v H'
    | .next=>Q .none H'):WC (callF (k+1)) 369 [a0,a1] H Q:=wc_run call_369 (vs1:=[a0,a1]) rfl (h _ rfl rfl)
theorem run_376 {k:Nat} {H:Hp} {Q:AV→Hp→Prop} {a0 a1:AV} (h:∀ ρ:Loc,ρ "self" = some a0→ρ "wanted" = some a1→WS (b_376 (callF k)) ρ H fun fl _ H'=>match fl with
    | .ret v=>Q v H'
    | .next=>Q .none H'):WC (callF (k+1)) 376 [a0,a1] H Q:=wc_run call_376 (vs1:=[a0,a1]) rfl (h _ rfl rfl)
theorem run_383 {k:Nat} {H:Hp} {Q:AV→Hp→Prop} {a0 a1 a2:AV} (h:∀ ρ:Loc,ρ "self" = some a0→ρ "at" = some a1→ρ "codes" = some a2→WS (b_383 (callF k)) ρ H fun fl _ H'=>match fl with
    | .ret v=>Q v H'
    | .next=>Q .none H'):WC (callF (k+1)) 383 [a0,a1,a2] H Q:=wc_run call_383 (vs1:=[a0,a1,a2]) rfl (h _ rfl rfl rfl)
theorem run_390 {k:Nat} {H:Hp} {Q:AV→Hp→Prop} {a0 a1 a2:AV} (h:∀ ρ:Loc,ρ "self" = some a0→ρ "start" = some a1→ρ "end" = some a2→WS (b_390 (callF k)) ρ H fun fl _ H'=>match fl with
    | .ret v=>Q v H'
    | .next=>Q .none H'):WC (callF (k+1)) 390 [a0,a1,a2] H Q:=wc_run call_390 (vs1:=[a0,a1,a2]) rfl (h _ rfl rfl rfl)
theorem run_432 {k:Nat} {H:Hp} {Q:AV→Hp→Prop} {a0:AV} (h:∀ ρ:Loc,ρ "self" = some a0→WS (b_432 (callF k)) ρ H fun fl _ H'=>match fl with
    | .ret v=>Q v H'
    | .next=>Q .none H'):WC (callF (k+1)) 432 [a0] H Q:=wc_run call_432 (vs1:=[a0]) rfl (h _ rfl)
theorem run_439 {k:Nat} {H:Hp} {Q:AV→Hp→Prop} {a0:AV} (h:∀ ρ:Loc,ρ "self" = some a0→WS (b_439 (callF k)) ρ H fun fl _ H'=>match fl with
    | .ret v=>Q v H'
    | .next=>Q .none H'):WC (callF (k+1)) 439 [a0] H Q:=wc_run call_439 (vs1:=[a0]) rfl (h _ rfl)
theorem run_467 {k:Nat} {H:Hp} {Q:AV→Hp→Prop} {a0 a1 a2 a3:AV} (h:∀ ρ:Loc,ρ "self" = some a0→ρ "start" = some a1→ρ "end" = some a2→ρ "is_before" = some a3→WS (b_467 (callF k)) ρ H fun fl _ H'=>match fl with
    | .ret v=>Q v H'
    | .next=>Q .none H'):WC (callF (k+1)) 467 [a0,a1,a2,a3] H Q:=wc_run call_467 (vs1:=[a0,a1,a2,a3]) rfl (h _ rfl rfl rfl rfl)
theorem run_474 {k:Nat} {H:Hp} {Q:AV→Hp→Prop} {a0 a1 a2:AV} (h:∀ ρ:Loc,ρ "self" = some a0→ρ "start" = some a1→ρ "end" = some a2→WS (b_474 (callF k)) ρ H fun fl _ H'=>match fl with
    | .ret v=>Q v H'
    | .next=>Q .none H'):WC (callF (k+1)) 474 [a0,a1,a2] H Q:=wc_run call_474 (vs1:=[a0,a1,a2]) rfl (h _ rfl rfl rfl)
theorem run_481 {k:Nat} {H:Hp} {Q:AV→Hp→Prop} {a0 a1 a2 a3:AV} (h:∀ ρ:Loc,ρ "self" = some a0→ρ "start" = some a1→ρ "end" = some a2→ρ "many" = some a3→WS (b_481 (callF k)) ρ H fun fl _ H'=>match fl with
    | .ret v=>Q v H'
    | .next=>Q .none H'):WC (callF (k+1)) 481 [a0,a1,a2,a3] H Q:=wc_run call_481 (vs1:=[a0,a1,a2,a3]) rfl (h _ rfl rfl rfl rfl)
theorem run_538 {k:Nat} {H:Hp} {Q:AV→Hp→Prop} {a0 a1 a2:AV} (h:∀ ρ:Loc,ρ "self" = some a0→ρ "number" = some a1→ρ "name" = some a2→ρ "room" = some ((.int 8))→WS (b_538 (callF k)) ρ H fun fl _ H'=>match fl with
    | .ret v=>Q v H'
    | .next=>Q .none H'):WC (callF (k+1)) 538 [a0,a1,a2] H Q:=wc_run call_538 (vs1:=[a0,a1,a2,(.int 8)]) rfl (h _ rfl rfl rfl rfl)
theorem run_573 {k:Nat} {H:Hp} {Q:AV→Hp→Prop} {a0:AV} (h:∀ ρ:Loc,ρ "self" = some a0→WS (b_573 (callF k)) ρ H fun fl _ H'=>match fl with
    | .ret v=>Q v H'
    | .next=>Q .none H'):WC (callF (k+1)) 573 [a0] H Q:=wc_run call_573 (vs1:=[a0]) rfl (h _ rfl)
theorem run_587 {k:Nat} {H:Hp} {Q:AV→Hp→Prop} {a0 a1 a2:AV} (h:∀ ρ:Loc,ρ "self" = some a0→ρ "start" = some a1→ρ "end" = some a2→WS (b_587 (callF k)) ρ H fun fl _ H'=>match fl with
    | .ret v=>Q v H'
    | .next=>Q .none H'):WC (callF (k+1)) 587 [a0,a1,a2] H Q:=wc_run call_587 (vs1:=[a0,a1,a2]) rfl (h _ rfl rfl rfl)
theorem run_622 {k:Nat} {H:Hp} {Q:AV→Hp→Prop} {a0 a1:AV} (h:∀ ρ:Loc,ρ "self" = some a0→ρ "are_codes" = some a1→WS (b_622 (callF k)) ρ H fun fl _ H'=>match fl with
    | .ret v=>Q v H'
    | .next=>Q .none H'):WC (callF (k+1)) 622 [a0,a1] H Q:=wc_run call_622 (vs1:=[a0,a1]) rfl (h _ rfl rfl)
theorem run_641 {k:Nat} {H:Hp} {Q:AV→Hp→Prop} {a0:AV} (h:∀ ρ:Loc,ρ "self" = some a0→WS (b_641 (callF k)) ρ H fun fl _ H'=>match fl with
    | .ret v=>Q v H'
    | .next=>Q .none H'):WC (callF (k+1)) 641 [a0] H Q:=wc_run call_641 (vs1:=[a0]) rfl (h _ rfl)
theorem run_648 {k:Nat} {H:Hp} {Q:AV→Hp→Prop} {a0 a1 a2 a3:AV} (h:∀ ρ:Loc,ρ "self" = some a0→ρ "buffer" = some a1→ρ "start" = some a2→ρ "end" = some a3→WS (b_648 (callF k)) ρ H fun fl _ H'=>match fl with
    | .ret v=>Q v H'
    | .next=>Q .none H'):WC (callF (k+1)) 648 [a0,a1,a2,a3] H Q:=wc_run call_648 (vs1:=[a0,a1,a2,a3]) rfl (h _ rfl rfl rfl rfl)
theorem run_655 {k:Nat} {H:Hp} {Q:AV→Hp→Prop} {a0 a1 a2 a3 a4:AV} (h:∀ ρ:Loc,ρ "self" = some a0→ρ "buffer" = some a1→ρ "start" = some a2→ρ "end" = some a3→ρ "old_length" = some a4→WS (b_655 (callF k)) ρ H fun fl _ H'=>match fl with
    | .ret v=>Q v H'
    | .next=>Q .none H'):WC (callF (k+1)) 655 [a0,a1,a2,a3,a4] H Q:=wc_run call_655 (vs1:=[a0,a1,a2,a3,a4]) rfl (h _ rfl rfl rfl rfl rfl)
theorem run_662 {k:Nat} {H:Hp} {Q:AV→Hp→Prop} {a0:AV} (h:∀ ρ:Loc,ρ "self" = some a0→WS (b_662 (callF k)) ρ H fun fl _ H'=>match fl with
    | .ret v=>Q v H'
    | .next=>Q .none H'):WC (callF (k+1)) 662 [a0] H Q:=wc_run call_662 (vs1:=[a0]) rfl (h _ rfl)
theorem run_676 {k:Nat} {H:Hp} {Q:AV→Hp→Prop} {a0:AV} (h:∀ ρ:Loc,ρ "buffer" = some a0→WS (b_676 (callF k)) ρ H fun fl _ H'=>match fl with
    | .ret v=>Q v H'
    | .next=>Q .none H'):WC (callF (k+1)) 676 [a0] H Q:=wc_run call_676 (vs1:=[a0]) rfl (h _ rfl)
theorem run_683 {k:Nat} {H:Hp} {Q:AV→Hp→Prop} {a0 a1:AV} (h:∀ ρ:Loc,ρ "buffer" = some a0→ρ "growth" = some a1→WS (b_683 (callF k)) ρ H fun fl _ H'=>match fl with
    | .ret v=>Q v H'
    | .next=>Q .none H'):WC (callF (k+1)) 683 [a0,a1] H Q:=wc_run call_683 (vs1:=[a0,a1]) rfl (h _ rfl rfl)
theorem run_690 {k:Nat} {H:Hp} {Q:AV→Hp→Prop} {a0 a1 a2:AV} (h:∀ ρ:Loc,ρ "buffer" = some a0→ρ "start" = some a1→ρ "end" = some a2→WS (b_690 (callF k)) ρ H fun fl _ H'=>match fl with
    | .ret v=>Q v H'
    | .next=>Q .none H'):WC (callF (k+1)) 690 [a0,a1,a2] H Q:=wc_run call_690 (vs1:=[a0,a1,a2]) rfl (h _ rfl rfl rfl)
theorem run_697 {k:Nat} {H:Hp} {Q:AV→Hp→Prop} {a0 a1 a2:AV} (h:∀ ρ:Loc,ρ "buffer" = some a0→ρ "start" = some a1→ρ "end" = some a2→WS (b_697 (callF k)) ρ H fun fl _ H'=>match fl with
    | .ret v=>Q v H'
    | .next=>Q .none H'):WC (callF (k+1)) 697 [a0,a1,a2] H Q:=wc_run call_697 (vs1:=[a0,a1,a2]) rfl (h _ rfl rfl rfl)
theorem run_704 {k:Nat} {H:Hp} {Q:AV→Hp→Prop} {a0 a1 a2 a3:AV} (h:∀ ρ:Loc,ρ "buffer" = some a0→ρ "start" = some a1→ρ "end" = some a2→ρ "old_length" = some a3→WS (b_704 (callF k)) ρ H fun fl _ H'=>match fl with
    | .ret v=>Q v H'
    | .next=>Q .none H'):WC (callF (k+1)) 704 [a0,a1,a2,a3] H Q:=wc_run call_704 (vs1:=[a0,a1,a2,a3]) rfl (h _ rfl rfl rfl rfl)
theorem run_711 {k:Nat} {H:Hp} {Q:AV→Hp→Prop} {a0 a1 a2:AV} (h:∀ ρ:Loc,ρ "buffer" = some a0→ρ "start" = some a1→ρ "end" = some a2→WS (b_711 (callF k)) ρ H fun fl _ H'=>match fl with
    | .ret v=>Q v H'
    | .next=>Q .none H'):WC (callF (k+1)) 711 [a0,a1,a2] H Q:=wc_run call_711 (vs1:=[a0,a1,a2]) rfl (h _ rfl rfl rfl)
theorem run_718 {k:Nat} {H:Hp} {Q:AV→Hp→Prop} {a0 a1 a2:AV} (h:∀ ρ:Loc,ρ "buffer" = some a0→ρ "place" = some a1→ρ "codes" = some a2→WS (b_718 (callF k)) ρ H fun fl _ H'=>match fl with
    | .ret v=>Q v H'
    | .next=>Q .none H'):WC (callF (k+1)) 718 [a0,a1,a2] H Q:=wc_run call_718 (vs1:=[a0,a1,a2]) rfl (h _ rfl rfl rfl)
theorem run_725 {k:Nat} {H:Hp} {Q:AV→Hp→Prop} {a0 a1 a2:AV} (h:∀ ρ:Loc,ρ "buffer" = some a0→ρ "start" = some a1→ρ "end" = some a2→WS (b_725 (callF k)) ρ H fun fl _ H'=>match fl with
    | .ret v=>Q v H'
    | .next=>Q .none H'):WC (callF (k+1)) 725 [a0,a1,a2] H Q:=wc_run call_725 (vs1:=[a0,a1,a2]) rfl (h _ rfl rfl rfl)
theorem run_732 {k:Nat} {H:Hp} {Q:AV→Hp→Prop} {a0 a1 a2 a3:AV} (h:∀ ρ:Loc,ρ "buffer" = some a0→ρ "place" = some a1→ρ "many" = some a2→ρ "before_markers" = some a3→WS (b_732 (callF k)) ρ H fun fl _ H'=>match fl with
    | .ret v=>Q v H'
    | .next=>Q .none H'):WC (callF (k+1)) 732 [a0,a1,a2,a3] H Q:=wc_run call_732 (vs1:=[a0,a1,a2,a3]) rfl (h _ rfl rfl rfl rfl)
theorem run_739 {k:Nat} {H:Hp} {Q:AV→Hp→Prop} {a0 a1 a2 a3 a4:AV} (h:∀ ρ:Loc,ρ "buffer" = some a0→ρ "place" = some a1→ρ "codes" = some a2→ρ "before_markers" = some a3→ρ "is_point_behind" = some a4→WS (b_739 (callF k)) ρ H fun fl _ H'=>match fl with
    | .ret v=>Q v H'
    | .next=>Q .none H'):WC (callF (k+1)) 739 [a0,a1,a2,a3,a4] H Q:=wc_run call_739 (vs1:=[a0,a1,a2,a3,a4]) rfl (h _ rfl rfl rfl rfl rfl)
theorem run_747 {k:Nat} {H:Hp} {Q:AV→Hp→Prop} {a0 a1 a2:AV} (h:∀ ρ:Loc,ρ "buffer" = some a0→ρ "place" = some a1→ρ "codes" = some a2→ρ "before_markers" = some ((.bool false))→WS (b_747 (callF k)) ρ H fun fl _ H'=>match fl with
    | .ret v=>Q v H'
    | .next=>Q .none H'):WC (callF (k+1)) 747 [a0,a1,a2] H Q:=wc_run call_747 (vs1:=[a0,a1,a2,(.bool false)]) rfl (h _ rfl rfl rfl rfl)
theorem run_754 {k:Nat} {H:Hp} {Q:AV→Hp→Prop} {a0 a1 a2:AV} (h:∀ ρ:Loc,ρ "buffer" = some a0→ρ "start" = some a1→ρ "end" = some a2→WS (b_754 (callF k)) ρ H fun fl _ H'=>match fl with
    | .ret v=>Q v H'
    | .next=>Q .none H'):WC (callF (k+1)) 754 [a0,a1,a2] H Q:=wc_run call_754 (vs1:=[a0,a1,a2]) rfl (h _ rfl rfl rfl)
theorem run_762 {k:Nat} {H:Hp} {Q:AV→Hp→Prop} {a0 a1 a2 a3:AV} (h:∀ ρ:Loc,ρ "buffer" = some a0→ρ "start" = some a1→ρ "end" = some a2→ρ "codes" = some a3→ρ "rows" = some (.none)→WS (b_762 (callF k)) ρ H fun fl _ H'=>match fl with
    | .ret v=>Q v H'
    | .next=>Q .none H'):WC (callF (k+1)) 762 [a0,a1,a2,a3] H Q:=wc_run call_762 (vs1:=[a0,a1,a2,a3,.none]) rfl (h _ rfl rfl rfl rfl rfl)
theorem run_769 {k:Nat} {H:Hp} {Q:AV→Hp→Prop} {a0 a1:AV} (h:∀ ρ:Loc,ρ "deck" = some a0→ρ "many" = some a1→WS (b_769 (callF k)) ρ H fun fl _ H'=>match fl with
    | .ret v=>Q v H'
    | .next=>Q .none H'):WC (callF (k+1)) 769 [a0,a1] H Q:=wc_run call_769 (vs1:=[a0,a1]) rfl (h _ rfl rfl)
theorem run_776 {k:Nat} {H:Hp} {Q:AV→Hp→Prop} {a0:AV} (h:∀ ρ:Loc,ρ "deck" = some a0→WS (b_776 (callF k)) ρ H fun fl _ H'=>match fl with
    | .ret v=>Q v H'
    | .next=>Q .none H'):WC (callF (k+1)) 776 [a0] H Q:=wc_run call_776 (vs1:=[a0]) rfl (h _ rfl)
theorem run_783 {k:Nat} {H:Hp} {Q:AV→Hp→Prop} {a0 a1:AV} (h:∀ ρ:Loc,ρ "deck" = some a0→ρ "most" = some a1→WS (b_783 (callF k)) ρ H fun fl _ H'=>match fl with
    | .ret v=>Q v H'
    | .next=>Q .none H'):WC (callF (k+1)) 783 [a0,a1] H Q:=wc_run call_783 (vs1:=[a0,a1]) rfl (h _ rfl rfl)
theorem run_790 {k:Nat} {H:Hp} {Q:AV→Hp→Prop} {a0:AV} (h:∀ ρ:Loc,ρ "codes" = some a0→WS (b_790 (callF k)) ρ H fun fl _ H'=>match fl with
    | .ret v=>Q v H'
    | .next=>Q .none H'):WC (callF (k+1)) 790 [a0] H Q:=wc_run call_790 (vs1:=[a0]) rfl (h _ rfl)
theorem run_797 {k:Nat} {H:Hp} {Q:AV→Hp→Prop} {a0:AV} (h:∀ ρ:Loc,ρ "codes" = some a0→WS (b_797 (callF k)) ρ H fun fl _ H'=>match fl with
    | .ret v=>Q v H'
    | .next=>Q .none H'):WC (callF (k+1)) 797 [a0] H Q:=wc_run call_797 (vs1:=[a0]) rfl (h _ rfl)
theorem run_804 {k:Nat} {H:Hp} {Q:AV→Hp→Prop} {a0 a1:AV} (h:∀ ρ:Loc,ρ "deck" = some a0→ρ "buffer" = some a1→WS (b_804 (callF k)) ρ H fun fl _ H'=>match fl with
    | .ret v=>Q v H'
    | .next=>Q .none H'):WC (callF (k+1)) 804 [a0,a1] H Q:=wc_run call_804 (vs1:=[a0,a1]) rfl (h _ rfl rfl)
theorem run_811 {k:Nat} {H:Hp} {Q:AV→Hp→Prop} {a0 a1 a2 a3:AV} (h:∀ ρ:Loc,ρ "lock_here" = some a0→ρ "log" = some a1→ρ "elder" = some a2→ρ "codes" = some a3→WS (b_811 (callF k)) ρ H fun fl _ H'=>match fl with
    | .ret v=>Q v H'
    | .next=>Q .none H'):WC (callF (k+1)) 811 [a0,a1,a2,a3] H Q:=wc_run call_811 (vs1:=[a0,a1,a2,a3]) rfl (h _ rfl rfl rfl rfl)
theorem run_816 {k:Nat} {H:Hp} {Q:AV→Hp→Prop} {a0:AV} (h:∀ ρ:Loc,ρ "script" = some a0→WS (b_816 (callF k)) ρ H fun fl _ H'=>match fl with
    | .ret v=>Q v H'
    | .next=>Q .none H'):WC (callF (k+1)) 816 [a0] H Q:=wc_run call_816 (vs1:=[a0]) rfl (h _ rfl)
end Mine
end
section
open PySem PySem.W
set_option Elab.async false
set_option linter.all false
set_option autoImplicit false
namespace Mine
theorem x_mod {a n:Int} {H:Hp} {Q:AV→Hp→Prop} (hn:n≠0) (q:Q (.int (a.fmod n)) H):∃ v H',binop .Mod (.int a) (.int n) H=some (v,H')∧Q v H':=
  ⟨_,_,if_neg hn,q⟩
open Classical in
theorem inD_ints {H:Hp} {i:Int} {l:List Int}:inD H (.int i) (l.map .int)=some (decide (i∈l)):=by
  unfold inD
  rw [dat_int,dat_ints]
  refine congrArg some ?_
  rw [Bool.eq_iff_iff,List.any_eq_true,decide_eq_true_iff]
  constructor
  · rintro ⟨d,hd,e⟩
    obtain ⟨j,hj,rfl⟩:=List.mem_map.mp hd
    have e:=of_decide_eq_true e
    injection e with e; exact e ▸ hj
  · intro h; exact ⟨_,List.mem_map.mpr ⟨i,h,rfl⟩,by simp⟩
theorem x_inT {k:Nat} {i:Int} {l:List Int} {H:Hp} {Q:Bool→Prop} (h:H[k]?=some (.tup (l.map .int))) (q:Q (decide (i∈l))):∃ c,cmpop .In (.int i) (.ref k) H=some c∧Q c:=
  ⟨_,bind_e (o:=items H[k]?) (by rw [h]; rfl) inD_ints,q⟩
theorem x_setSl {a b:Nat} {xs ys:List AV} {x y:AV} {lo hi:Option Int} {H:Hp} {Q:Hp→Prop} (ha:H[a]?=some (.list xs)) (hb:H[b]?=some (.list ys)) (n:a≠b) (hl:xs.length+ys.length≤1000000) (hx:part x=some lo) (hy:part y=some hi) (q:Q (H.set a (.list (splice xs lo hi ys)))) :
    ∃ H4,setSl (.ref a) x y (.ref b) H=some H4∧Q H4:=⟨_,bind_e hx (bind_e hy (atList_e ha (atList_e hb (if_pos ⟨n,hl⟩)))),q⟩
theorem x_ext {vs:List AV} {P:Prop} (h:vs.any isExt=false) (q:P):vs.any isExt=false∧P:=⟨h,q⟩
theorem x_ll {vs:List AV} {P:Prop} (h:vs.length≤1000000) (q:P):vs.length≤1000000∧P:=⟨h,q⟩
theorem x_nx {v:AV} {P:Prop} (h:isExt v=false) (q:P):isExt v=false∧P:=⟨h,q⟩
theorem x_setIx {k:Nat} {n:Int} {xs:List AV} {H:Hp} {P:Nat→Int→List AV→Prop} (h:H[k]?=some (.list xs)) (hl:xs.length≤1000000) (h0:0≤n) (h1:n<xs.length) (q:P k n xs) :
    ∃ k' n' xs,AV.ref k=.ref k'∧AV.int n=.int n'∧H[k']?=some (.list xs)∧xs.length≤1000000∧0≤n'∧n'<xs.length∧P k' n' xs:=⟨k,n,xs,rfl,rfl,h,hl,h0,h1,q⟩
theorem ws_swap2 {c:EX} {x y:Str} {ρ:Loc} {H:Hp} {Q:Fl→Loc→Hp→Prop} (h:W c ρ H fun v H1=>∃ k a b,v=.ref k∧H1[k]?=some (.tup [a,b])∧(isExt a=false∧isExt b=false)∧Q .next (upL (upL ρ y b) x a) H1):WS (sSwapV c [x,y]) ρ H Q:=by
  obtain ⟨v,H1,e,k,a,b,rfl,h1,⟨na,nb⟩,q⟩:=h
  exact ws_swap ⟨_,H1,e,k,_,rfl,h1,wts_cons (wt_var nb (wts_cons (wt_var na (wts_nil q))))⟩
theorem ws_swap3 {c:EX} {x y z:Str} {ρ:Loc} {H:Hp} {Q:Fl→Loc→Hp→Prop} (h:W c ρ H fun v H1=>∃ k a b d,v=.ref k∧H1[k]?=some (.tup [a,b,d])∧(isExt a=false∧isExt b=false∧isExt d=false)∧Q .next (upL (upL (upL ρ z d) y b) x a) H1):WS (sSwapV c [x,y,z]) ρ H Q:=by
  obtain ⟨v,H1,e,k,a,b,d,rfl,h1,⟨na,nb,nd⟩,q⟩:=h
  exact ws_swap ⟨_,H1,e,k,_,rfl,h1,wts_cons (wt_var nd (wts_cons (wt_var nb (wts_cons (wt_var na (wts_nil q))))))⟩
theorem x_tup2 {H:Hp} {k:Nat} {a b:AV} {P:Nat→AV→AV→Prop} (h:H[k]?=some (.tup [a,b])) (n:isExt a=false∧isExt b=false) (q:P k a b):∃ k' a b,AV.ref k=.ref k'∧H[k']?=some (.tup [a,b])∧(isExt a=false∧isExt b=false)∧P k' a b:=⟨k,a,b,rfl,h,n,q⟩
theorem x_tup3 {H:Hp} {k:Nat} {a b d:AV} {P:Nat→AV→AV→AV→Prop} (h:H[k]?=some (.tup [a,b,d])) (n:isExt a=false∧isExt b=false∧isExt d=false) (q:P k a b d):∃ k' a b d,AV.ref k=.ref k'∧H[k']?=some (.tup [a,b,d])∧(isExt a=false∧isExt b=false∧isExt d=false)∧P k' a b d:=⟨k,a,b,d,rfl,h,n,q⟩
theorem ws_forF {c:EX} {d:TX} {b:SX} {ρ:Loc} {H:Hp} {Q:Fl→Loc→Hp→Prop} {xs:List AV} (hn:xs.length<1000000) (h:W c ρ H fun v H1=>∃ k,v=.ref k∧∃ I:Nat→Loc→Hp→Prop,I 0 ρ H1∧(∀ i ρ H,I i ρ H→i≤xs.length∧H[k]?=some (.list xs))∧
      (∀ i x ρ H,xs[i]?=some x→I i ρ H→WT d x ρ H fun ρ1 H2=>WS b ρ1 H2 fun f ρ2 H3=>match f with
        | .next=>I (i+1) ρ2 H3
        | .ret v=>Q (.ret v) ρ2 H3)∧(∀ ρ H,I xs.length ρ H→Q .next ρ H)):WS (sFor (iList c) d b) ρ H Q:=by
  refine ws_forL xs.length hn ?_
  obtain ⟨v,H1,e,k,rfl,I,i0,i1,i2,i3⟩:=h
  refine ⟨_,H1,e,k,xs,rfl,(i1 _ _ _ i0).2,I,i0,fun i ρ H hi=>⟨(i1 _ _ _ hi).1,xs,(i1 _ _ _ hi).2,?_⟩⟩
  cases hx:xs[i]? with
  | some x=>exact i2 i x ρ H hx hi
  | none=>
    have:i=xs.length:=Nat.le_antisymm (i1 _ _ _ hi).1 (List.getElem?_eq_none_iff.mp hx)
    exact i3 _ _ (this ▸ hi)
theorem forR_go {d:TX} {b:SX} {Q:Fl→Loc→Hp→Prop} {a n:Int} {I:Int→Loc→Hp→Prop} (h1:∀ x ρ H,a≤x→x<n→I x ρ H→WT d (.int x) ρ H fun ρ1 H2=>WS b ρ1 H2 fun f ρ2 H3=>match f with
        | .next=>I (x+1) ρ2 H3
        | .ret v=>Q (.ret v) ρ2 H3) (h2:∀ x ρ H,a≤x→n≤x→I x ρ H→Q .next ρ H) {ρ:Loc} {H:Hp} (h0:I a ρ H) (hb:n - a<2000001):WS (forGo d b fuelN (.range a (max 0 (n - a)))) ρ H Q:=by
  refine forGo_range (I:=fun x l ρ H=>a≤x∧l=max 0 (n - x)∧I x ρ H) (fun x l ρ H hi=>?_) fuelN _ _ ρ H ⟨Int.le_refl _,rfl,h0⟩ (by unfold fuelN; lia) (by unfold fuelN; lia)
  obtain ⟨hx,rfl,hi⟩:=hi
  by_cases hl:0<max 0 (n - x)
  · rw [if_pos hl]
    obtain ⟨ρ1,H2,e1,f,ρ2,H3,e2,q⟩:=h1 x ρ H hx (by lia) hi
    refine ⟨ρ1,H2,e1,f,ρ2,H3,e2,?_⟩
    cases f with
    | next=>exact ⟨by lia,by lia,q⟩
    | ret v=>exact q
  · rw [if_neg hl]
    exact h2 x ρ H hx (by lia) hi
theorem ws_forR1 {c:EX} {d:TX} {b:SX} {ρ:Loc} {H:Hp} {Q:Fl→Loc→Hp→Prop} (h:W c ρ H fun v H1=>∃ n:Int,v=.int n∧(-1000000≤n∧n≤1000000)∧∃ I:Int→Loc→Hp→Prop,I 0 ρ H1∧
      (∀ x ρ H,0≤x→x<n→I x ρ H→WT d (.int x) ρ H fun ρ1 H2=>WS b ρ1 H2 fun f ρ2 H3=>match f with
        | .next=>I (x+1) ρ2 H3
        | .ret v=>Q (.ret v) ρ2 H3)∧(∀ x ρ H,0≤x→n≤x→I x ρ H→Q .next ρ H)):WS (sFor (iRange [c]) d b) ρ H Q:=by
  obtain ⟨_,H1,e,n,rfl,hn,I,i0,i1,i2⟩:=h
  obtain ⟨f,ρ',H',e',q⟩:=forR_go i1 i2 i0 (by lia)
  have e3:iRange [c] ρ H=some (.range 0 (max 0 n),H1):=oB_e (oB_e e rfl) (if_pos hn)
  rw [Int.sub_zero] at e'
  exact ⟨f,ρ',H',oB_e e3 e',q⟩
theorem ws_forR2 {c c':EX} {d:TX} {b:SX} {ρ:Loc} {H:Hp} {Q:Fl→Loc→Hp→Prop} (h:W c ρ H fun v H0=>W c' ρ H0 fun w H1=>∃ a n:Int,v=.int a∧w=.int n∧(-1000000≤a∧a≤1000000∧-1000000≤n∧n≤1000000)∧∃ I:Int→Loc→Hp→Prop,I a ρ H1∧
      (∀ x ρ H,a≤x→x<n→I x ρ H→WT d (.int x) ρ H fun ρ1 H2=>WS b ρ1 H2 fun f ρ2 H3=>match f with
        | .next=>I (x+1) ρ2 H3
        | .ret v=>Q (.ret v) ρ2 H3)∧(∀ x ρ H,a≤x→n≤x→I x ρ H→Q .next ρ H)):WS (sFor (iRange [c,c']) d b) ρ H Q:=by
  obtain ⟨_,H0,e0,_,H1,e,a,n,rfl,rfl,hn,I,i0,i1,i2⟩:=h
  obtain ⟨f,ρ',H',e',q⟩:=forR_go i1 i2 i0 (by lia)
  have e3:iRange [c,c'] ρ H=some (.range a (max 0 (n - a)),H1):=oB_e (oB_e e0 (oB_e (oB_e e rfl) rfl)) (if_pos hn)
  exact ⟨f,ρ',H',oB_e e3 e',q⟩
theorem compGo_list {x:Str} {c:EX} {D k:Nat} {xs:List AV} {π:Loc} {Q:Hp→Prop} {I:Nat→List AV→Hp→Prop} (hx:∀ v∈xs,isExt v=false) (hl:xs.length≤999999)
    (i1:∀ i ys H,I i ys H→ys.length=i∧H[k]?=some (.list xs))
    (i2:∀ i v ys ρ H,xs[i]?=some v→I i ys H→ρ x=some v→(∀ y,y≠x→ρ y=π y)→W c ρ H fun y H2=>H2[D]?=some (.list ys)∧I (i+1) (ys++[y]) (H2.set D (.list (ys++[y]))))
    (i3:∀ ys H,I xs.length ys H→Q H):∀ (m i:Nat) (ys:List AV) (ρ:Loc) (H:Hp),I i ys H→(∀ y,y≠x→ρ y=π y)→i≤xs.length→xs.length - i<m→∃ H',compGo x c D m (.list k i) ρ H=some H'∧Q H':=by
  intro m
  induction m with
  | zero=>intro i ys ρ H _ _ _ h; lia
  | succ m ih=>
    intro i ys ρ H hi hp hn hm
    obtain ⟨l1,hk⟩:=i1 i ys H hi
    cases e:xs[i]? with
    | none=>
      have:i=xs.length:=Nat.le_antisymm hn (List.getElem?_eq_none_iff.mp e)
      exact ⟨H,oN_n (atList_e hk (by rw [e]; rfl)) rfl,i3 ys H (this ▸ hi)⟩
    | some v=>
      obtain ⟨y,H2,e2,h2,h3⟩:=i2 i v ys (upL ρ x v) H e hi upL_eq (fun y n=>by unfold upL; rw [if_neg n]; exact hp y n)
      have lt:i<xs.length:=(List.getElem?_eq_some_iff.mp e).1
      obtain ⟨H',e',q⟩:=ih (i+1) (ys++[y]) (upL ρ x v) _ h3 (fun y n=>by unfold upL; rw [if_neg n]; exact hp y n) lt (by lia)
      have nx:isExt v=false:=hx v (List.mem_of_getElem? e)
      have ly:ys.length≤999999:=by lia
      exact ⟨H',oN_s (atList_e hk (by rw [e]; rfl)) (ifn_e nx (oB_e e2 (atList_e h2 (ift_e ly e')))),q⟩
theorem w_mapL {ok:Loc→Bool} {inn:Loc→Loc} {x:Str} {a c:EX} {ρ:Loc} {H:Hp} {Q:AV→Hp→Prop} (ho:ok ρ=true) (h:W a ρ H fun v H1=>∃ k xs,v=.ref k∧H1[k]?=some (.list xs)∧(∀ v∈xs,isExt v=false)∧xs.length≤999999∧
      ∃ I:Nat→List AV→Hp→Prop,I 0 [] (H1++[.list []])∧(∀ i ys H,I i ys H→ys.length=i∧H[k]?=some (.list xs))∧
      (∀ i v ys ρ' H,xs[i]?=some v→I i ys H→ρ' x=some v→(∀ y,y≠x→ρ' y=inn ρ y)→W c ρ' H fun y H2=>H2[H1.length]?=some (.list ys)∧I (i+1) (ys++[y]) (H2.set H1.length (.list (ys++[y]))))∧
      (∀ ys H,I xs.length ys H→Q (.ref H1.length) H)):W (eMapV ok inn x (iList a) c) ρ H Q:=by
  obtain ⟨_,H1,e,k,xs,rfl,hk,hx,hl,I,i0,i1,i2,i3⟩:=h
  obtain ⟨H',e',q⟩:=compGo_list hx hl i1 i2 i3 fuelN 0 [] (inn ρ) _ i0 (fun _ _=>rfl) (Nat.zero_le _) (by unfold fuelN; lia)
  have e3:iList a ρ H=some (.list k 0,H1):=oRef_e e (atList_e hk rfl)
  exact ⟨_,H',ift_e ho (oB_e e3 (map_e e')),q⟩
theorem compGo_range {x:Str} {c:EX} {D:Nat} {a n:Int} {π:Loc} {Q:Hp→Prop} {I:Int→List AV→Hp→Prop} (hl:n - a≤999999)
    (i1:∀ i ys H,I i ys H→(ys.length:Int)=i - a)
    (i2:∀ i ys ρ H,a≤i→i<n→I i ys H→ρ x=some (.int i)→(∀ y,y≠x→ρ y=π y)→W c ρ H fun y H2=>H2[D]?=some (.list ys)∧I (i+1) (ys++[y]) (H2.set D (.list (ys++[y]))))
    (i3:∀ i ys H,a≤i→n≤i→I i ys H→Q H):∀ (m:Nat) (i l:Int) (ys:List AV) (ρ:Loc) (H:Hp),I i ys H→(∀ y,y≠x→ρ y=π y)→a≤i→l=max 0 (n - i)→l<m→∃ H',compGo x c D m (.range i l) ρ H=some H'∧Q H':=by
  intro m
  induction m with
  | zero=>intro i l ys ρ H _ _ _ _ h; lia
  | succ m ih=>
    intro i l ys ρ H hi hp hn hl2 hm
    have l1:=i1 i ys H hi
    by_cases e:0<l
    · obtain ⟨y,H2,e2,h2,h3⟩:=i2 i ys (upL ρ x (.int i)) H hn (by lia) hi upL_eq (fun y n=>by unfold upL; rw [if_neg n]; exact hp y n)
      obtain ⟨H',e',q⟩:=ih (i+1) (l - 1) (ys++[y]) (upL ρ x (.int i)) _ h3 (fun y n=>by unfold upL; rw [if_neg n]; exact hp y n) (by lia) (by lia) (by lia)
      have ly:ys.length≤999999:=by lia
      exact ⟨H',oN_s (congrArg some (if_pos e)) (ifn_e rfl (oB_e e2 (atList_e h2 (ift_e ly e')))),q⟩
    · exact ⟨H,oN_n (congrArg some (if_neg e)) rfl,i3 i ys H hn (by lia) hi⟩
theorem w_mapR2 {ok:Loc→Bool} {inn:Loc→Loc} {x:Str} {a b c:EX} {ρ:Loc} {H:Hp} {Q:AV→Hp→Prop} (ho:ok ρ=true) (h:W a ρ H fun v H0=>W b ρ H0 fun w H1=>∃ a n:Int,v=.int a∧w=.int n∧(-1000000≤a∧a≤1000000∧-1000000≤n∧n≤1000000)∧n - a≤999999∧
      ∃ I:Int→List AV→Hp→Prop,I a [] (H1++[.list []])∧(∀ i ys H,I i ys H→(ys.length:Int)=i - a)∧
      (∀ i ys ρ' H,a≤i→i<n→I i ys H→ρ' x=some (.int i)→(∀ y,y≠x→ρ' y=inn ρ y)→W c ρ' H fun y H2=>H2[H1.length]?=some (.list ys)∧I (i+1) (ys++[y]) (H2.set H1.length (.list (ys++[y]))))∧
      (∀ i ys H,a≤i→n≤i→I i ys H→Q (.ref H1.length) H)):W (eMapV ok inn x (iRange [a,b]) c) ρ H Q:=by
  obtain ⟨_,H0,e0,_,H1,e,a1,n,rfl,rfl,hn,hl,I,i0,i1,i2,i3⟩:=h
  obtain ⟨H',e',q⟩:=compGo_range hl i1 i2 i3 fuelN a1 (max 0 (n - a1)) [] (inn ρ) _ i0 (fun _ _=>rfl) (Int.le_refl _) rfl (by unfold fuelN; lia)
  have e3:iRange [a,b] ρ H=some (.range a1 (max 0 (n - a1)),H1):=oB_e (oB_e e0 (oB_e (oB_e e rfl) rfl)) (if_pos hn)
  exact ⟨_,H',ift_e ho (oB_e e3 (map_e e')),q⟩
theorem pick_mid {xs:List AV} {a b:Int} (ha:0≤a) (hb:0≤b):pick xs (some a) (some b)=(xs.take b.toNat).drop a.toNat:=by
  unfold pick kms_lo kms_hi
  simp only [Int.not_lt.mpr ha,Int.not_lt.mpr hb,if_false]
  rw [← List.drop_take]
  by_cases h:a.toNat≤xs.length
  · rw [Nat.min_eq_left h]
    by_cases h2:b.toNat≤xs.length
    · rw [Nat.min_eq_left h2]
    · rw [Nat.min_eq_right (by lia),List.take_of_length_le (Nat.le_refl _),List.take_of_length_le (by lia)]
  · rw [List.drop_eq_nil_of_le (by simp; lia),List.drop_eq_nil_of_le (by simp; lia)]
theorem pick_to {xs:List AV} {b:Int} (hb:0≤b):pick xs none (some b)=xs.take b.toNat:=by
  unfold pick kms_lo kms_hi
  simp only [Int.not_lt.mpr hb,if_false,List.drop_zero,Nat.sub_zero]
  by_cases h2:b.toNat≤xs.length
  · rw [Nat.min_eq_left h2]
  · rw [Nat.min_eq_right (by lia),List.take_of_length_le (Nat.le_refl _),List.take_of_length_le (by lia)]
theorem pick_from {xs:List AV} {a:Int} (ha:0≤a):pick xs (some a) none=xs.drop a.toNat:=by
  unfold pick kms_lo kms_hi
  simp only [Int.not_lt.mpr ha,if_false]
  by_cases h2:a.toNat≤xs.length
  · rw [Nat.min_eq_left h2,List.take_of_length_le (by simp)]
  · rw [List.drop_eq_nil_of_le (by lia),List.take_of_length_le (by simp),List.drop_eq_nil_of_le (by lia)]
theorem map_cut {l:List Int} {a b:Nat}:((l.map AV.int).take b).drop a=((l.take b).drop a).map AV.int:=by rw [List.map_drop,List.map_take]
theorem pyIdx_nat {xs:List AV} {i:Int} {v:AV} (h:0≤i) (e:xs[i.toNat]?=some v):pyIdx xs i=some v:=by
  unfold pyIdx seqIndex?
  have hl:i.toNat<xs.length:=(List.getElem?_eq_some_iff.mp e).1
  have h2:(0≤i && i<xs.length)=true:=by simp; lia
  simp only [Int.not_lt.mpr h,if_false,h2,if_true,Option.bind_some,e]
theorem pyIdx_last {xs:List AV} {v:AV}:pyIdx (xs++[v]) (-1)=some v:=by
  have h:seqIndex? (-1) (xs++[v]).length=some xs.length:=by
    unfold seqIndex?
    have e:((-1:Int)+((xs++[v]).length:Nat))=xs.length:=by simp; lia
    have e2:(0≤(xs.length:Int) && (xs.length:Int)<((xs++[v]).length:Nat))=true:=by simp; lia
    simp only [show (-1:Int)<0 by omega,if_true,e,e2,Int.toNat_natCast]
  unfold pyIdx
  rw [h]
  simp
noncomputable def EV (c:EX) (ρ:Loc) (H:Hp) (v:AV) (H':Hp):Prop:=c ρ H=some (v,H')
noncomputable def EVs (l:List EX) (ρ:Loc) (H:Hp) (vs:List AV) (H':Hp):Prop:=eArgs l ρ H=some (vs,H')
section
variable {c d e:EX} {l:List EX} {lo hi:Option EX} {ρ:Loc} {H H1 H2 H3:Hp} {v w x y z:AV} {vs xs ys:List AV} {k cls:Nat} {fs:List (Str×AV)} {n m:Str} {a b:Int} {p q:Bool} {op:Operator} {cop:CmpOp}
theorem w_EV {Q:AV→Hp→Prop} (e:EV c ρ H v H1) (q:Q v H1):W c ρ H Q:=⟨v,H1,e,q⟩
theorem wa_EV {Q:List AV→Hp→Prop} (e:EVs l ρ H vs H1) (q:Q vs H1):WA l ρ H Q:=⟨vs,H1,e,q⟩
theorem ev_var (h:ρ n=some v):EV (eVar n) ρ H v H:=map_e h
theorem ev_int:EV (eInt a) ρ H (.int a) H:=rfl
theorem ev_bool:EV (eBool p) ρ H (.bool p) H:=rfl
theorem ev_none:EV eNone ρ H .none H:=rfl
theorem ev_attr {o:AO} (e:EV c ρ H (.ref k) H1) (h:H1[k]?=some o) (f:oget n o=some v):EV (eAttr c n) ρ H v H1:=by
  cases o with
  | inst cls fs=>have f:fget n fs=some v:=f; exact oRef_e e (atInst_e h (map_e f))
  | _=>cases f
theorem ev_bin (e1:EV c ρ H x H1) (e2:EV d ρ H1 y H2) (o:binop op x y H2=some (v,H3)):EV (eBin op c d) ρ H v H3:=oB_e e1 (oB_e e2 o)
theorem ev_cmp (e1:EV c ρ H x H1) (e2:EV d ρ H1 y H2) (o:cmpop cop x y H2=some p):EV (eCmp cop c d) ρ H (.bool p) H2:=oB_e e1 (oB_e e2 (map_e o))
theorem ev_idx (e1:EV c ρ H x H1) (e2:EV d ρ H1 y H2) (o:idx x y H2=some v):EV (eIdx c d) ρ H v H2:=oB_e e1 (oB_e e2 (map_e o))
theorem ev_blt (e:EVs l ρ H vs H1) (o:blt n vs H1=some (v,H2)):EV (eBlt n l) ρ H v H2:=oB_e e o
theorem ev_neg (e:EV c ρ H (.int a) H1):EV (eNeg c) ρ H (.int (-a)) H1:=oInt_e e rfl
theorem ev_not (e:EV c ρ H (.bool p) H1):EV (eNot c) ρ H (.bool !p) H1:=oBool_e e rfl
theorem ev_list (e:EVs l ρ H vs H1) (h:vs.length≤1000000):EV (eList l) ρ H (.ref H1.length) (H1++[.list vs]):=oB_e e (if_pos h)
theorem ev_tup (e:EVs l ρ H vs H1) (h:vs.length≤1000000):EV (eTup l) ρ H (.ref H1.length) (H1++[.tup vs]):=oB_e e (if_pos h)
theorem ev_slice {lo' hi':Option Int} (e1:EV c ρ H (.ref k) H1) (e2:EV (ePart lo) ρ H1 x H2) (e3:EV (ePart hi) ρ H2 y H3) (h:H3[k]?=some (.list xs)) (hl:xs.length≤1000000) (p1:part x=some lo') (p2:part y=some hi'):EV (eSlice c lo hi) ρ H (.ref H3.length) (H3++[.list (pick xs lo' hi')]):=oB_e e1 (oB_e e2 (oB_e e3 (bind_e p1 (bind_e p2 (atList_e h (if_pos hl))))))
theorem ev_sliceV (hx:ρ n=some (.ref k)) (e:EV (eSlice (eVar n) lo hi) ρ H v H1):EV (eSliceV n lo hi) ρ H v H1:=by unfold EV eSliceV; rw [hx]; exact e
theorem ev_part0:EV (ePart none) ρ H .none H:=rfl
theorem ev_part (e:EV c ρ H v H1):EV (ePart (some c)) ρ H v H1:=e
theorem evs_nil:EVs [] ρ H [] H:=rfl
theorem evs_cons (e:EV c ρ H v H1) (es:EVs l ρ H1 vs H2):EVs (c::l) ρ H (v::vs) H2:=oB_e e (oB_e es rfl)
theorem wt_attrE {o:AO} {Q:Loc→Hp→Prop} (e:EV c ρ H (.ref k) H1) (h:H1[k]?=some o) (f:oset n o=true) (q:Q ρ (H1.set k (oput n v o))):WT (tAttr c n) v ρ H Q:=by
  cases o with
  | inst cls fs=>exact wt_attr (w_EV e (x_tattr h f q))
  | _=>cases f
theorem wt_idxE {i:Int} {Q:Loc→Hp→Prop} (e1:EV c ρ H (.ref k) H1) (e2:EV d ρ H1 (.int i) H2) (h:H2[k]?=some (.list xs)) (hl:xs.length≤1000000) (h0:0≤i) (h1:i<xs.length) (q:Q ρ (H2.set k (.list (xs.set i.toNat v)))):WT (tIdx c d) v ρ H Q:=wt_idx (w_EV e1 (w_EV e2 (x_setIx h hl h0 h1 q)))
theorem w_methE {cf:CallF} {t:Nat×Str×Nat} {o:AO} {Q:AV→Hp→Prop} (e:EV c ρ H (.ref k) H1) (h:H1[k]?=some o) (g:omet n o=some t) (q:WA l ρ H1 fun vs H2=>vs.any isExt=false∧WC cf t.2.2 (.ref k::vs) H2 Q):W (eMeth cf c n l) ρ H Q:=by
  cases o with
  | inst cls fs=>
    have g:(match fget n fs with
      | none=>mtab.find? (fun q=>q.1 == cls && q.2.1 == n)
      | some _=>none)=some t:=g
    cases hf:fget n fs with
    | none=>rw [hf] at g; exact w_meth (w_EV e (x_meth h hf g q))
    | some x=>rw [hf] at g; cases g
  | _=>cases g
theorem w_appE {cf:CallF} {Q:AV→Hp→Prop} (e1:EV c ρ H (.ref k) H1) (h:H1[k]?=some (.list xs)) (q:W d ρ H1 fun x H2=>∃ ys,H2[k]?=some (.list ys)∧ys.length≤999999∧Q .none (H2.set k (.list (ys++[x])))):W (eMeth cf c "append" [d]) ρ H Q:=w_append (w_EV e1 (x_app h q))
theorem bo_add:binop .Add (.int a) (.int b) H=some (.int (a+b),H):=rfl
theorem bo_sub:binop .Sub (.int a) (.int b) H=some (.int (a - b),H):=rfl
theorem bo_cat {i j:Nat} (ha:H[i]?=some (.list xs)) (hb:H[j]?=some (.list ys)) (hl:xs.length+ys.length≤1000000):binop .Add (.ref i) (.ref j) H=some (.ref H.length,H++[.list (xs++ys)]):=atList_e ha (atList_e hb (if_pos hl))
theorem bo_mult (ha:H[k]?=some (.list [x])) (hl:-1000000≤a∧a≤1000000):binop .Mult (.ref k) (.int a) H=some (.ref H.length,H++[.list (List.replicate a.toNat x)]):=atList_e ha (if_pos ⟨rfl,hl⟩)
theorem cm_lt:cmpop .Lt (.int a) (.int b) H=some (decide (a<b)):=rfl
theorem cm_le:cmpop .LtE (.int a) (.int b) H=some (decide (a≤b)):=rfl
theorem cm_gt:cmpop .Gt (.int a) (.int b) H=some (decide (a > b)):=rfl
theorem cm_ge:cmpop .GtE (.int a) (.int b) H=some (decide (a ≥ b)):=rfl
theorem cm_eq:cmpop .Eq (.int a) (.int b) H=some (decide (a=b)):=eq_int
theorem cm_ne:cmpop .NotEq (.int a) (.int b) H=some (!decide (a=b)):=map_e (eq_int (H:=H))
theorem cm_is0:cmpop .Is .none .none H=some true:=rfl
theorem cm_is1:cmpop .Is (.ref k) .none H=some false:=rfl
theorem cm_is2:cmpop .Is (.int a) .none H=some false:=rfl
theorem cm_isn:cmpop .IsNot .none .none H=some false:=rfl
theorem cm_inL {l:List Int} (h:H[k]?=some (.list (l.map .int))):cmpop .In (.int a) (.ref k) H=some (decide (a∈l)):=bind_e (o:=items H[k]?) (by rw [h]; rfl) inD_ints
theorem cm_niL {l:List Int} (h:H[k]?=some (.list (l.map .int))):cmpop .NotIn (.int a) (.ref k) H=some (!decide (a∈l)):=map_e (bind_e (o:=items H[k]?) (by rw [h]; rfl) inD_ints)
theorem cm_eqL {i j:Nat} {l m:List Int} (ha:H[i]?=some (.list (l.map .int))) (hb:H[j]?=some (.list (m.map .int))):cmpop .Eq (.ref i) (.ref j) H=some (decide (l=m)):=eq_ints ha hb
theorem cm_neL {i j:Nat} {l m:List Int} (ha:H[i]?=some (.list (l.map .int))) (hb:H[j]?=some (.list (m.map .int))):cmpop .NotEq (.ref i) (.ref j) H=some (!decide (l=m)):=map_e (eq_ints ha hb)
theorem bl_min:blt "min" [.int a,.int b] H=some (.int (min a b),H):=rfl
theorem bl_max:blt "max" [.int a,.int b] H=some (.int (max a b),H):=rfl
theorem bl_abs:blt "abs" [.int a] H=some (.int a.natAbs,H):=rfl
theorem bl_sorted (h:H[k]?=some .dict0):blt "sorted" [.ref k] H=some (.ref H.length,H++[.list []]):=by
  show atDict H[k]? _=_; rw [h]; rfl
theorem bl_list (h:H[k]?=some (.list xs)) (hl:xs.length≤1000000):blt "list" [.ref k] H=some (.ref H.length,H++[.list xs]):=atList_e h (if_pos hl)
theorem x_bin {Q:AV→Hp→Prop} (o:binop op x y H=some (v,H1)) (q:Q v H1):∃ v H',binop op x y H=some (v,H')∧Q v H':=⟨v,H1,o,q⟩
theorem x_cmp {Q:Bool→Prop} (o:cmpop cop x y H=some p) (q:Q p):∃ c,cmpop cop x y H=some c∧Q c:=⟨p,o,q⟩
theorem x_blt {Q:AV→Hp→Prop} (o:blt n vs H=some (v,H1)) (q:Q v H1):∃ v H',blt n vs H=some (v,H')∧Q v H':=⟨v,H1,o,q⟩
end
end Mine
end
section
namespace Mine
open Lean in
def alt (s:String):MacroM (TSyntax ``Parser.Tactic.tacticSeq):=do
  match s.splitOn " " with
  | "A" :: []=>`(tacticSeq| assumption)
  | "R" :: []=>`(tacticSeq| rfl)
  | "@" :: k=>do
    let l:=Syntax.mkStrLit (" ".intercalate k)
    `(tacticSeq| walk_at $l:str)
  | x::ks=>do
    let mut hs:Array Term:=#[]
    let mut ts:Array (TSyntax `tactic):=#[]
    let mut us:Array (TSyntax `tactic):=#[]
    let mut i:=1
    for k in ks do
      if k == "_" then hs:=hs.push (← `(?_))
      else if k == "I" then
        hs:=hs.push (← `(?_)); us:=us.push (← `(tactic| intro _ _))
      else
        let n:=mkIdent (← Macro.addMacroScope (Name.mkSimple s!"a{i}"))
        i:=i+1
        hs:=hs.push (← `(?$n))
        let d:=k.startsWith "-"
        let k:=if d then (k.drop 1).toString else k
        let t ← if k == "R" then `(tactic| rfl) else if k == "A" then `(tactic| assumption) else if k == "L" then `(tactic| lia) else
          let l:=Syntax.mkStrLit k
          `(tactic| walk_at $l:str)
        let t ← `(tactic| case $n:ident=>$t:tactic)
        if d then us:=us.push t else ts:=ts.push t
    let m:=mkIdent x.toName
    let ts':=ts++us
    if ks.isEmpty then `(tacticSeq| with_reducible exact $m) else `(tacticSeq| (with_reducible refine' $m $hs*); ($ts';*))
  | []=>Macro.throwUnsupported
open Lean in
def alts (s:String):MacroM (TSyntax `tactic):=do
  let a ← (s.splitOn "|").toArray.mapM alt
  `(tactic| first $[| $a]*)
end Mine
end
section
open PySem PySem.W
set_option Elab.async false
set_option linter.all false
set_option autoImplicit false
set_option maxRecDepth 4000
namespace Mine
section
local macro_rules | `(tactic| walk_at "lx")=>`(tactic| first | assumption | ((try simp only [List.length_map,List.length_append,List.length_cons,List.length_nil,List.length_replicate,List.length_take,List.length_drop] at *); lia) | (simp; done))
local macro_rules | `(tactic| walk_at "ds")=>`(tactic| with_reducible dsimp only [List.reverse_cons,List.reverse_nil,List.nil_append,List.cons_append,List.map_cons,List.map_nil])
local macro_rules | `(tactic| walk_at "sq")=>`(tactic| show WS (sSeq _ _) _ _ _)
local macro_rules | `(tactic| walk_at "si")=>`(tactic| simp)
local macro_rules | `(tactic| walk_at "lk")=>alts "A|upL_eq|upL_ne R lk"
local macro_rules | `(tactic| walk_at "ln")=>alts "len_ne hp"
local macro_rules | `(tactic| walk_at "ne")=>alts "A|Ne.symm A|ne_F1 A A|ne_F2 A A|len_ne hp|Ne.symm ln|ne_tag A hp R"
local macro_rules | `(tactic| walk_at "tr")=>alts "A|Trips.app tr|Trips.setI -tr hp -R"
local macro_rules | `(tactic| walk_at "hp")=>alts "A|get_new1|get_app hp|get_set hp|get_set_ne hp ne"
local macro_rules | `(tactic| walk_at "mem")=>alts "mem1|mem2|mem3|mem4|A"
local macro_rules | `(tactic| walk_at "sm")=>alts "List.not_mem_nil|sub0|@ mem|sub1 mem|sub2 mem mem|sub3 mem mem mem|@ si"
local macro_rules | `(tactic| walk_at "ka")=>alts "Keep.app|Keep.set mem"
local macro_rules | `(tactic| walk_at "kp")=>alts "A|Keep.refl|Keep.trans -kp ka"
local macro_rules | `(tactic| walk_at "le")=>alts "A|Le.app le|Le.set -le A"
local macro_rules | `(tactic| walk_at "bo")=>alts "bo_add|bo_sub|bo_cat hp hp lx|bo_mult hp lx"
local macro_rules | `(tactic| walk_at "cm")=>alts "cm_lt|cm_le|cm_gt|cm_ge|cm_eq|cm_ne|cm_is0|cm_is1|cm_is2|cm_isn|cm_eqL hp hp|cm_neL hp hp|cm_inL hp|cm_niL hp"
local macro_rules | `(tactic| walk_at "i3")=>alts "A|pyIdx_last|R"
local macro_rules | `(tactic| walk_at "ix")=>alts "idx_tup hp lx R|idx_list hp lx i3"
local macro_rules | `(tactic| walk_at "bl")=>alts "len_list hp lx|bl_min|bl_max|bl_abs|bl_list hp lx|bl_sorted hp"
local macro_rules | `(tactic| walk_at "ev")=>alts "ev_var lk|ev_int|ev_bool|ev_none|ev_part0|ev_attr ev hp R|ev_bin ev ev bo|ev_cmp ev ev cm|ev_idx ev ev ix|ev_blt evs bl|ev_tup evs lx|ev_list evs lx|ev_part ev|ev_slice ev ev ev hp lx R R|ev_sliceV lk ev|ev_neg ev|ev_not ev"
local macro_rules | `(tactic| walk_at "evs")=>alts "evs_nil|evs_cons ev evs"
local macro_rules | `(tactic| walk_at "rr")=>alts "And.intro R R"
local macro_rules | `(tactic| walk_at "w")=>alts "w_EV ev _|wa_EV evs _|ws_seqW _|ws_seqF _|wsq I|wif I|wiff I|ws_assign _|x_bool _|x_ite_t _|x_ite_f _|ws_nil _|ws_ret _|ws_ret0 _|ws_expr _|x_intv _|x_none _|cont3 A _|cont2 A _|wt_var R _|wt_attrE ev hp R _|x_ext R _|x_ll lx _|x_nx R _|w_appE ev hp _|x_app2 hp lx _|w_count _|x_app hp _|w_methE ev hp R _|w_bin _|w_cmp _|w_idx _|w_fun _|wa_cons _|wa_nil _|w_blt _|w_not _|w_neg _|w_all1 _|w_all _|w_any1 _|w_any _|w_cmp2 _|w_attr _|w_list _|w_tup _|w_slice _|w_part0 _|w_part _|w_new _|w_dict0 _|ws_swap2 _|ws_swap3 _|ws_assignV _|wts_cons _|wts_nil _|wt_slice _|x_bin bo _|x_cmp cm _|x_idx ix _|x_blt bl _|w_sliceV lk _|x_tup2 hp rr _|x_tup3 hp r3 _|wt_tup hp _|wt_idxE ev ev hp lx L lx _|x_slice hp lx R R _|x_setSl hp hp ne lx R R _|@ ds|@ sq"
local macro_rules | `(tactic| walk_at "r3")=>alts "And.intro R rr"
local macro_rules | `(tactic| walk_at "ww")=>`(tactic| repeat walk_at "w")
local macro_rules | `(tactic| walk_at "lst")=>`(tactic| ((apply List.ext_getElem?; intro i; simp only [List.getElem?_append,List.getElem?_take,List.getElem?_drop,List.length_append,List.length_take,List.length_drop]; repeat' split) <;> first
  | rfl
  | lia
  | (congr 1; lia)
  | exact List.getElem?_eq_none (by lia)
  | exact (List.getElem?_eq_none (by lia)).symm
  | (rw [List.getElem?_eq_none (by lia),List.getElem?_eq_none (by lia)])))
noncomputable abbrev Fz:=Nat→Option AO
noncomputable def Le (F:Fz) (H:Hp):Prop:=∀ j o,F j=some o→H[j]?=some o
theorem Le.app {F:Fz} {H t:Hp} (h:Le F H):Le F (H++t):=fun j o e=>get_app (h j o e)
theorem Le.set {F:Fz} {H:Hp} {k:Nat} {o:AO} (h:Le F H) (n:F k=none):Le F (H.set k o):=fun j o' e=>get_set_ne (h j o' e) (fun e'=>by subst e'; rw [n] at e; cases e)
theorem Le.ext {F:Fz} {H H':Hp} (h:Le F H) (k:Keep [] H H'):Le F H':=fun j o e=>k j o (by walk_at "sm") (h j o e)
theorem Le.len {F:Fz} {H:Hp} (h:Le F H) {k:Nat} (hk:H.length≤k):F k=none:=by
  cases e:F k with
  | none=>rfl
  | some o=>have:=lt_get (h k o e); lia
theorem Le.kept {F:Fz} {H H':Hp} {M:List Nat} (h:Le F H) (m:∀ j∈M,F j=none) (k:Keep M H H'):Le F H':=fun j o e=>k j o (fun q=>by rw [m j q] at e; cases e) (h j o e)
theorem ne_F1 {F:Fz} {a b:Nat} {o:AO} (h:F a=none) (h':F b=some o):a≠b:=fun e=>by subst e; rw [h] at h'; cases h'
theorem ne_F2 {F:Fz} {a b:Nat} {o:AO} (h:F a=none) (h':F b=some o):b≠a:=(ne_F1 h h').symm
noncomputable def fz (H:Hp):Fz:=fun j=>H[j]?
theorem Le.fz {H:Hp}:Le (fz H) H:=fun _ _ h=>h
theorem Le.keep {H H':Hp} (h:Le (Mine.fz H) H'):Keep [] H H':=fun j o _ e=>h j o e
theorem fz_new {H:Hp}:fz H H.length=none:=by unfold fz; simp
theorem fz_new' {H:Hp} {n:Nat} (h:H.length≤n):fz H n=none:=get_none h
noncomputable def signsOb (q ls st en:Nat):AO:=.inst 58 [("quotes",.ref q),("escape",.int 92),("line_starts",.ref ls),("start",.ref st),("end",.ref en),("nests",.bool true)]
structure SignsF (F:Fz) (k:Nat):Prop where
  ob:∃ q ls st en l1,F k=some (signsOb q ls st en)∧
    F q=some (.list (([34]:List Int).map .int))∧F ls=some (.list [.ref l1])∧F l1=some (.list (([59]:List Int).map .int))∧F st=some (.list (([47,42]:List Int).map .int))∧F en=some (.list (([42,47]:List Int).map .int))
theorem SignsF.at {F:Fz} {H:Hp} {k:Nat} (h:SignsF F k) (l:Le F H):SignsAt H k:=by
  obtain ⟨q,ls,st,en,l1,h1,h2,h3,h4,h5,h6⟩:=h.ob
  exact ⟨q,ls,st,en,l1,l _ _ h1,l _ _ h2,l _ _ h3,l _ _ h4,l _ _ h5,l _ _ h6⟩
noncomputable def FLe (F G:Fz):Prop:=∀ j o,F j=some o→G j=some o
theorem SignsF.mono {F G:Fz} {k:Nat} (h:SignsF F k) (l:FLe F G):SignsF G k:=by
  obtain ⟨q,ls,st,en,l1,h1,h2,h3,h4,h5,h6⟩:=h.ob
  exact ⟨q,ls,st,en,l1,l _ _ h1,l _ _ h2,l _ _ h3,l _ _ h4,l _ _ h5,l _ _ h6⟩
theorem Le.fle {F:Fz} {H:Hp} (h:Le F H):FLe F (Mine.fz H):=h
theorem SignsF.elim {F:Fz} {k:Nat} {G:Prop} (h:SignsF F k) (r:∀ q ls st en l1,F k=some (signsOb q ls st en)→F q=some (.list (([34]:List Int).map .int))→F ls=some (.list [.ref l1])→F l1=some (.list (([59]:List Int).map .int))→F st=some (.list (([47,42]:List Int).map .int))→F en=some (.list (([42,47]:List Int).map .int))→G):G:=by
  obtain ⟨q,ls,st,en,l1,h1,h2,h3,h4,h5,h6⟩:=h.ob
  exact r q ls st en l1 h1 h2 h3 h4 h5 h6
structure ScanAt (H:Hp) (k sg cd sp:Nat) (s:Sc):Prop where
  ob:∃ st xs,H[k]?=some (scanOb sg cd st s.at_ s.bg sp)∧H[st]?=some (.tup [.int s.st.1,.int s.st.2])∧H[sp]?=some (.list xs)∧Trips H xs s.sp
theorem ScanAt.elim {H:Hp} {k sg cd sp:Nat} {s:Sc} {G:Prop} (h:ScanAt H k sg cd sp s) (r:∀ st xs,H[k]?=some (scanOb sg cd st s.at_ s.bg sp)→H[st]?=some (.tup [.int s.st.1,.int s.st.2])→H[sp]?=some (.list xs)→Trips H xs s.sp→G):G:=by
  obtain ⟨st,xs,h1,h2,h3,h4⟩:=h.ob
  exact r st xs h1 h2 h3 h4
theorem Trips.len {H:Hp}:∀ {xs:List AV} {l:List (Int×Int×Int)},Trips H xs l→xs.length=l.length
  | [],[],_=>rfl
  | .ref r::xs,(a,b,c)::l,h=>by simp [Trips.len h.2]
theorem Trips.imp {H H':Hp} (k:∀ (r:Nat) (ts:List AV),H[r]?=some (AO.tup ts)→H'[r]?=some (AO.tup ts)):∀ {xs:List AV} {l:List (Int×Int×Int)},Trips H xs l→Trips H' xs l
  | [],[],_=>trivial
  | .ref r::xs,(a,b,c)::l,h=>⟨k _ _ h.1,Trips.imp k h.2⟩
theorem Trips.app {H t:Hp} {xs:List AV} {l:List (Int×Int×Int)} (h:Trips H xs l):Trips (H++t) xs l:=h.imp fun _ _ e=>get_app e
theorem Trips.setI {H:Hp} {k:Nat} {o p:AO} {xs:List AV} {l:List (Int×Int×Int)} (h:Trips H xs l) (e:H[k]?=some p) (n:Nat.beq (otag p) 1=false:=by rfl):Trips (H.set k o) xs l:=
  h.imp fun r ts e'=>get_set_ne e' (ne_tag e e' n)
theorem Trips.snoc {H:Hp} {r:Nat} {a b c:Int} (e:H[r]?=some (.tup [.int a,.int b,.int c])):∀ {xs:List AV} {l:List (Int×Int×Int)},Trips H xs l→Trips H (xs++[.ref r]) (l++[(a,b,c)])
  | [],[],_=>⟨e,trivial⟩
  | .ref _::xs,(_,_,_)::l,h=>⟨h.1,Trips.snoc e h.2⟩
theorem codeAt_get {cs:List Int} {i:Int} (h0:0≤i) (h1:i<cs.length):pyIdx (cs.map AV.int) i=some (.int (codeAt cs i)):=by
  refine pyIdx_nat h0 ?_
  rw [List.getElem?_map,codeAt,List.getD_eq_getElem?_getD]
  have:i.toNat<cs.length:=by lia
  rw [List.getElem?_eq_getElem this]; rfl
theorem c_104s {n k sg cd sp st':Nat} {F:Fz} {H:Hp} {s:Sc} {a b:Int} (hF:Le F H) (hk:F k=none) (hI:ScanAt H k sg cd sp s) (h':H[st']?=some (.tup [.int a,.int b])) {Q:AV→Hp→Prop}
    (q:∀ H',Le F H'→ScanAt H' k sg cd sp (enterS s (a,b))→(∀ j o,j≠k→H[j]?=some o→H'[j]?=some o)→Q .none H'):WC (callF (n+1)) 104 [.ref k,.ref st'] H Q:=by
  refine hI.elim fun st xs h1 h2 h3 h4=>?_
  refine c_104 h1 (q _ (hF.set hk) ⟨_,xs,get_set h1,get_set_ne h' (ne_tag h1 h' rfl),get_set_ne h3 (ne_tag h1 h3 rfl),h4.setI h1⟩ fun j o n e=>get_set_ne e n.symm)
theorem c_97s {n k sg cd sp:Nat} {F:Fz} {H:Hp} {s:Sc} (hF:Le F H) (hk:F k=none) (hsp:F sp=none) (hI:ScanAt H k sg cd sp s) (hl:s.sp.length≤999999) {Q:AV→Hp→Prop}
    (q:∀ H',Le F H'→ScanAt H' k sg cd sp (leaveS s)→Q .none H'):WC (callF (n+1)) 97 [.ref k] H Q:=by
  refine hI.elim fun st xs h1 h2 h3 h4=>?_
  refine c_97 h1 h2 h3 (by rw [h4.len]; exact hl) (fun h=>q _ hF ?_) (fun ha hb=>q _ (hF.app.set hsp) ?_)
  · unfold leaveS
    rw [if_neg (by lia)]
    exact hI
  · unfold leaveS
    rw [if_pos ⟨ha,hb⟩]
    have e3:=get_app (t:=[AO.tup [AV.int s.bg,AV.int s.at_,AV.int s.st.1]]) h3
    refine ⟨st,_,get_set_ne (get_app h1) (ne_tag h3 h1 rfl),get_set_ne (get_app h2) (ne_tag h3 h2 rfl),get_set e3,Trips.snoc ?_ (h4.app.setI e3)⟩
    exact get_set_ne get_new1 (len_ne h3).symm
theorem c_90 {n k sg cd st:Nat} {H:Hp} (h:H[k]?=some (.inst 135 [])) {Q:AV→Hp→Prop} (q:∀ sp H',Keep [k] H H'→H'[k]?=some (scanOb sg cd st 0 0 sp)→H[sp]?=none→H'[sp]?=some (AO.list [])→Q .none H'):WC (callF (n+1)) 90 [.ref k,.ref sg,.ref cd,.ref st] H Q:=by
  refine run_90 fun ρ r1 r2 r3 r4=>?_
  unfold b_90
  walk_at "ww"
  refine q H.length _ (by walk_at "kp") ?_ (get_none (Nat.le_refl _)) ?_
  · simp only [List.length_set]
    exact get_set (by walk_at "hp")
  · simp only [List.set_set]
    refine get_set_ne ?_ (len_ne h).symm
    have:=get_new1 (H:=H.set k (scanOb sg cd st 0 0 0)) (o:=AO.list [])
    rw [List.length_set] at this
    rw [List.getElem?_append_right (by walk_at "sm")]
    simp
theorem c_111 {n k sg cd sp:Nat} {F:Fz} {H:Hp} {cs:List Int} {s:Sc} (hF:Le F H) (hs:SignsF F sg) (hc:F cd=some (.list (cs.map .int))) (l1:cs.length≤1000000) (hk:F k=none) (hsp:F sp=none) (hI:ScanAt H k sg cd sp s) (h0:0≤s.at_) (hlt:s.at_<cs.length) (hl:s.sp.length≤999999) {Q:AV→Hp→Prop}
    (q:∀ H',Le F H'→ScanAt H' k sg cd sp (inCodeS cs s)→Q .none H'):WC (callF (n+3)) 111 [.ref k] H Q:=by
  refine run_111 fun ρ r1=>?_
  refine hI.elim fun st xs h1 h2 h3 h4=>?_
  refine hs.elim fun qq ls ss en la g1 g2 g3 g4 g5 g6=>?_
  have j1:=hF _ _ g1
  have j2:=hF _ _ g2
  have j5:=hF _ _ g5
  have hc':=hF _ _ hc
  have ix:=codeAt_get h0 hlt
  have lx:=h4.len
  unfold b_111
  walk_at "ww"
  refine ite_both (fun c1=>?_) (fun c1=>?_)
  · walk_at "ww"
    have e:inCodeS cs s={ s with at_:=s.at_+2 }:=by unfold inCodeS; rw [if_pos (by simpa using c1)]
    refine q _ (by walk_at "le") (e ▸ ⟨st,xs,get_set (by walk_at "hp"),by walk_at "hp",by walk_at "hp",by walk_at "tr"⟩)
  · walk_at "ww"
    refine c_76 (hs.at hF.app) (by walk_at "hp") l1 fun t=>?_
    walk_at "ww"
    refine ite_both (fun c2=>?_) (fun c2=>?_)
    · walk_at "ww"
      have e:inCodeS cs s={ s with sp:=s.sp++[(s.at_,(cs.length:Int),2)],at_:=cs.length }:=by unfold inCodeS; rw [if_neg (by simpa using c1),if_pos c2]
      have ll:=List.length_map AV.int (as:=cs)
      refine q _ (by walk_at "le") (e ▸ ⟨st,_,?_,by walk_at "hp",by walk_at "hp",?_⟩)
      · rw [ll]; exact get_set (by walk_at "hp")
      · rw [ll]
        refine Trips.setI (Trips.snoc ?_ (Trips.setI (by walk_at "tr") (by walk_at "hp"))) (by walk_at "hp")
        exact get_set_ne get_new1 (len_ne (H:=H++[AO.tup [AV.ref sg,AV.ref cd]]++t) (by walk_at "hp")).symm
    · walk_at "ww"
      refine c_69 (ws:=[47,42]) (by walk_at "hp") (by walk_at "hp") l1 (by decide) fun t'=>?_
      walk_at "ww"
      refine ite_both (fun c3=>?_) (fun c3=>?_)
      · walk_at "ww"
        refine c_104s (F:=F) (a:=2) (b:=1) (by walk_at "le") hk ⟨st,xs,by walk_at "hp",by walk_at "hp",by walk_at "hp",by walk_at "tr"⟩ (by walk_at "hp") fun H' hF' hI' hK=>?_
        refine hI'.elim fun st' xs' i1 i2 i3 i4=>?_
        have j1':=hF' _ _ g1
        have j5':=hF' _ _ g5
        walk_at "ww"
        have e:inCodeS cs s={ enterS s (2,1) with at_:=s.at_+2 }:=by unfold inCodeS; rw [if_neg (by simpa using c1),if_neg (by simpa using c2),if_pos c3]
        exact q _ (by walk_at "le") (e ▸ ⟨st',_,get_set i1,by walk_at "hp",by walk_at "hp",by walk_at "tr"⟩)
      · walk_at "ww"
        refine ite_both (fun c4=>?_) (fun c4=>?_)
        · walk_at "ww"
          refine c_104s (F:=F) (a:=1) (b:=codeAt cs s.at_) (by walk_at "le") hk ⟨st,xs,by walk_at "hp",by walk_at "hp",by walk_at "hp",by walk_at "tr"⟩ (by walk_at "hp") fun H' hF' hI' hK=>?_
          refine hI'.elim fun st' xs' i1 i2 i3 i4=>?_
          have e4:codeAt cs s.at_=34:=by simpa using c4
          walk_at "ww"
          have e:inCodeS cs s={ enterS s (1,codeAt cs s.at_) with at_:=s.at_+1 }:=by unfold inCodeS; rw [if_neg (by simpa using c1),if_neg (by simpa using c2),if_neg (by simpa using c3),if_pos e4,e4]
          exact q _ (by walk_at "le") (e ▸ ⟨st',_,get_set i1,by walk_at "hp",by walk_at "hp",by walk_at "tr"⟩)
        · walk_at "ww"
          have e:inCodeS cs s={ s with at_:=s.at_+1 }:=by unfold inCodeS; rw [if_neg (by simpa using c1),if_neg (by simpa using c2),if_neg (by simpa using c3),if_neg (by simpa using c4)]
          exact q _ (by walk_at "le") (e ▸ ⟨st,_,get_set (by walk_at "hp"),by walk_at "hp",by walk_at "hp",by walk_at "tr"⟩)
theorem c_118 {n k sg cd sp:Nat} {F:Fz} {H:Hp} {cs:List Int} {s:Sc} (hF:Le F H) (hs:SignsF F sg) (hc:F cd=some (.list (cs.map .int))) (l1:cs.length≤1000000) (hk:F k=none) (hsp:F sp=none) (hI:ScanAt H k sg cd sp s) (h0:0≤s.at_) (hlt:s.at_<cs.length) (hl:s.sp.length≤999999) {Q:AV→Hp→Prop}
    (q:∀ H',Le F H'→ScanAt H' k sg cd sp (inStringS cs s)→Q .none H'):WC (callF (n+2)) 118 [.ref k] H Q:=by
  refine run_118 fun ρ r1=>?_
  refine hI.elim fun st xs h1 h2 h3 h4=>?_
  refine hs.elim fun qq ls ss en la g1 g2 g3 g4 g5 g6=>?_
  have j1:=hF _ _ g1
  have hc':=hF _ _ hc
  have ix:=codeAt_get h0 hlt
  have lx:=h4.len
  unfold b_118
  walk_at "ww"
  refine ite_both (fun c1=>?_) (fun c1=>?_)
  · walk_at "ww"
    have e:inStringS cs s={ s with at_:=s.at_+2 }:=by unfold inStringS; rw [if_pos (by simpa using c1)]
    exact q _ (by walk_at "le") (e ▸ ⟨st,xs,get_set (by walk_at "hp"),by walk_at "hp",by walk_at "hp",by walk_at "tr"⟩)
  · walk_at "ww"
    refine ite_both (fun c2=>?_) (fun c2=>?_)
    · walk_at "ww"
      refine c_97s (F:=F) (s:={ s with at_:=s.at_+1 }) (by walk_at "le") hk hsp ⟨st,xs,get_set (by walk_at "hp"),by walk_at "hp",by walk_at "hp",by walk_at "tr"⟩ hl fun H' hF' hI'=>?_
      refine hI'.elim fun st' xs' i1 i2 i3 i4=>?_
      walk_at "ww"
      have e:inStringS cs s={ leaveS { s with at_:=s.at_+1 } with st:=(0,0) }:=by unfold inStringS; rw [if_neg (by simpa using c1),if_pos (by simpa using c2)]
      have i5:=get_app (t:=[AO.tup [AV.int 0,AV.int 0]]) i1
      exact q _ (by walk_at "le") (e ▸ ⟨H'.length,xs',get_set i5,get_set_ne get_new1 (len_ne i1).symm,by walk_at "hp",by walk_at "tr"⟩)
    · walk_at "ww"
      have e:inStringS cs s={ s with at_:=s.at_+1 }:=by unfold inStringS; rw [if_neg (by simpa using c1),if_neg (by simpa using c2)]
      exact q _ (by walk_at "le") (e ▸ ⟨st,xs,get_set (by walk_at "hp"),by walk_at "hp",by walk_at "hp",by walk_at "tr"⟩)
theorem c_125 {n k sg cd sp:Nat} {F:Fz} {H:Hp} {cs:List Int} {s:Sc} (hF:Le F H) (hs:SignsF F sg) (hc:F cd=some (.list (cs.map .int))) (l1:cs.length≤1000000) (hk:F k=none) (hsp:F sp=none) (hI:ScanAt H k sg cd sp s) (h0:0≤s.at_) (hlt:s.at_<cs.length) (hl:s.sp.length≤999999) {Q:AV→Hp→Prop}
    (q:∀ H',Le F H'→ScanAt H' k sg cd sp (inCommentS cs s)→Q .none H'):WC (callF (n+2)) 125 [.ref k] H Q:=by
  refine run_125 fun ρ r1=>?_
  refine hI.elim fun st xs h1 h2 h3 h4=>?_
  refine hs.elim fun qq ls ss en la g1 g2 g3 g4 g5 g6=>?_
  have j1:=hF _ _ g1
  have j5:=hF _ _ g5
  have j6:=hF _ _ g6
  have hc':=hF _ _ hc
  have lx:=h4.len
  unfold b_125
  walk_at "ww"
  refine c_69 (ws:=[42,47]) (by walk_at "hp") (by walk_at "hp") l1 (by decide) fun t=>?_
  walk_at "ww"
  refine ite_both (fun c1=>?_) (fun c1=>?_)
  · walk_at "ww"
    refine ite_both (fun c2=>?_) (fun c2=>?_)
    · walk_at "ww"
      have e:inCommentS cs s={ s with at_:=s.at_+2,st:=(2,s.st.2 - 1) }:=by unfold inCommentS; rw [if_pos c1,if_pos (by simpa using c2)]
      refine q _ (by walk_at "le") (e ▸ ⟨_,xs,get_set (by walk_at "hp"),?_,by walk_at "hp",by walk_at "tr"⟩)
      exact get_set_ne get_new1 (Ne.symm (len_ne (by walk_at "hp")))
    · walk_at "ww"
      refine c_97s (F:=F) (s:={ s with at_:=s.at_+2 }) (by walk_at "le") hk hsp ⟨st,xs,get_set (by walk_at "hp"),by walk_at "hp",by walk_at "hp",by walk_at "tr"⟩ hl fun H' hF' hI'=>?_
      refine hI'.elim fun st' xs' i1 i2 i3 i4=>?_
      walk_at "ww"
      have e:inCommentS cs s={ leaveS { s with at_:=s.at_+2 } with st:=(0,0) }:=by unfold inCommentS; rw [if_pos c1,if_neg (by simpa using c2)]
      have i5:=get_app (t:=[AO.tup [AV.int 0,AV.int 0]]) i1
      exact q _ (by walk_at "le") (e ▸ ⟨H'.length,xs',get_set i5,get_set_ne get_new1 (len_ne i1).symm,by walk_at "hp",by walk_at "tr"⟩)
  · walk_at "ww"
    refine c_69 (ws:=[47,42]) (by walk_at "hp") (by walk_at "hp") l1 (by decide) fun t'=>?_
    walk_at "ww"
    refine ite_both (fun c2=>?_) (fun c2=>?_)
    · walk_at "ww"
      have e:inCommentS cs s={ s with at_:=s.at_+2,st:=(2,s.st.2+1) }:=by unfold inCommentS; rw [if_neg (by simpa using c1),if_pos c2]
      refine q _ (by walk_at "le") (e ▸ ⟨_,xs,get_set (by walk_at "hp"),?_,by walk_at "hp",by walk_at "tr"⟩)
      exact get_set_ne get_new1 (Ne.symm (len_ne (by walk_at "hp")))
    · walk_at "ww"
      have e:inCommentS cs s={ s with at_:=s.at_+1 }:=by unfold inCommentS; rw [if_neg (by simpa using c1),if_neg (by simpa using c2)]
      exact q _ (by walk_at "le") (e ▸ ⟨st,xs,get_set (by walk_at "hp"),by walk_at "hp",by walk_at "hp",by walk_at "tr"⟩)
theorem cut_le {w n b a:Nat} (h:w≤min a n - min b n) (hw:0<w):b+w≤n:=by omega
theorem stands_len {cs ws:List Int} {i:Int} (h:standsAt cs ws i=true) (h0:0≤i):i+ws.length≤cs.length:=by
  unfold standsAt at h
  rw [Bool.and_eq_true,decide_eq_true_eq,decide_eq_true_eq] at h
  have h3:(pickI cs (some i) (some (i+ws.length))).length≤kms_hi (some (i+ws.length)) cs.length - kms_lo (some i) cs.length:=List.length_take_le _ _
  rw [h.2] at h3
  unfold kms_lo kms_hi at h3
  dsimp only at h3
  rw [if_neg (Int.not_lt.mpr h0),if_neg (Int.not_lt.mpr (Int.add_nonneg h0 (Int.natCast_nonneg _)))] at h3
  have h4:=cut_le h3 (List.length_pos_iff.mpr h.1)
  rw [← Int.toNat_of_nonneg h0]
  exact Int.ofNat_le.mpr h4
noncomputable def InS (n:Int) (s:Sc):Prop:=0≤s.at_∧0≤s.bg∧s.bg≤n∧((s.sp.length:Int)≤s.at_∧s.at_≤n+1)∧∀ p∈s.sp,0≤p.1∧p.1≤p.2.1∧p.2.1≤n
theorem turn_in {cs:List Int} {s:Sc} (h:InS cs.length s) (hl:s.at_<cs.length):InS cs.length (turnS cs s)∧s.at_<(turnS cs s).at_:=by
  obtain ⟨h0,h1,h2,h3,h4⟩:=h
  have leave:∀ a:Int,s.at_<a→a≤cs.length→InS cs.length { leaveS { s with at_:=a } with st:=(0,0) }∧s.at_<(leaveS { s with at_:=a }).at_:=by
    intro a ha hb
    unfold leaveS
    split
    · rename_i hh
      simp only at hh
      refine ⟨⟨by simp only; lia,h1,h2,⟨by simp; lia,by simp only; lia⟩,fun p hp=>?_⟩,ha⟩
      rcases List.mem_append.mp hp with hp | hp
      · exact h4 p hp
      · simp only [List.mem_singleton] at hp; subst hp; simp only; lia
    · exact ⟨⟨by simp only; lia,h1,h2,⟨by simp only; lia,by simp only; lia⟩,h4⟩,ha⟩
  have go:∀ (a:Int) (t:Int×Int),s.at_<a→a≤cs.length+1→InS cs.length { s with at_:=a,st:=t }∧s.at_<a:=fun a t ha hb=>⟨⟨by simp only; lia,h1,h2,⟨by simp only; lia,by simp only; lia⟩,h4⟩,ha⟩
  have goE:∀ (a:Int) (t:Int×Int),s.at_<a→a≤cs.length+1→InS cs.length { enterS s t with at_:=a }∧s.at_<a:=fun a t ha hb=>⟨⟨by simp only; lia,h0,by simp only [enterS]; lia,⟨by simp only [enterS]; lia,by simp only; lia⟩,h4⟩,ha⟩
  unfold turnS
  split
  · unfold inCodeS
    split
    · exact go _ _ (by lia) (by lia)
    · split
      · refine ⟨⟨by simp only; lia,h1,h2,⟨by simp only [List.length_append,List.length_singleton]; lia,by simp only; lia⟩,fun p hp=>?_⟩,by simp only; omega⟩
        rcases List.mem_append.mp hp with hp | hp
        · exact h4 p hp
        · simp only [List.mem_singleton] at hp; subst hp; simp only; lia
      · split
        · exact goE _ _ (by lia) (by lia)
        · split
          · exact goE _ _ (by lia) (by lia)
          · exact go _ _ (by lia) (by lia)
  · split
    · unfold inStringS
      split
      · exact go _ _ (by lia) (by lia)
      · split
        · exact leave _ (by lia) (by lia)
        · exact go _ _ (by lia) (by lia)
    · unfold inCommentS
      split
      · rename_i hs
        have:=stands_len hs h0
        simp only [List.length_cons,List.length_nil] at this
        split
        · exact go _ _ (by lia) (by lia)
        · exact leave _ (by lia) (by omega)
      · split
        · exact go _ _ (by lia) (by lia)
        · exact go _ _ (by lia) (by lia)
theorem c_132 {n k sg cd sp:Nat} {F:Fz} {H:Hp} {cs:List Int} {s:Sc} (hF:Le F H) (hs:SignsF F sg) (hc:F cd=some (.list (cs.map .int))) (l1:cs.length≤900000) (hk:F k=none) (hsp:F sp=none) (hI:ScanAt H k sg cd sp s) (hin:InS cs.length s) {Q:AV→Hp→Prop}
    (q:∀ H' s',Le F H'→s'={ goS cs (cs.length+1) s with at_:=(cs.length:Int) }→InS cs.length (goS cs (cs.length+1) s)→ScanAt H' k sg cd sp (leaveS s')→Q .none H'):WC (callF (n+4)) 132 [.ref k] H Q:=by
  refine run_132 fun ρ r1=>?_
  unfold b_132
  refine ws_seq (ws_while (fun i ρ' H'=>ρ' "self" = some (.ref k)∧∃ s',ScanAt H' k sg cd sp s'∧Le F H'∧InS cs.length s'∧goS cs i s'=goS cs (cs.length+1) s∧(cs.length:Int) - s'.at_<i) (cs.length+1) (by lia) ⟨r1,s,hI,hF,hin,rfl,by have:=hin.1; lia⟩ ?_)
  rintro i ρ' H' ⟨r1,s',hI',hF',hin',hg,hi⟩
  have hc':=hF' _ _ hc
  refine hI'.elim fun st xs h1 h2 h3 h4=>?_
  have ll:(cs.map AV.int).length=cs.length:=List.length_map ..
  walk_at "ww"
  rw [ll]
  by_cases hlt:s'.at_<(cs.length:Int)
  · rw [if_pos (by simpa using hlt)]
    obtain ⟨hin2,hmv⟩:=turn_in hin' hlt
    have hl:s'.sp.length≤999999:=by have:=hin'.2.2.2.1.1; lia
    have next:∀ H2,Le F H2→ScanAt H2 k sg cd sp (turnS cs s')→∃ j,j<i∧ρ' "self" = some (AV.ref k)∧∃ s',ScanAt H2 k sg cd sp s'∧Le F H2∧InS cs.length s'∧goS cs j s'=goS cs (cs.length+1) s∧(cs.length:Int) - s'.at_<j:=fun H2 hF2 hI2=>by
      cases i with
      | zero=>lia
      | succ j=>
        refine ⟨j,by lia,r1,_,hI2,hF2,hin2,?_,by lia⟩
        rw [← hg]
        show _=if s'.at_<cs.length then goS cs j (turnS cs s') else s'
        rw [if_pos hlt]
    walk_at "ww"
    refine ite_both (fun c1=>?_) (fun c1=>?_)
    · have e:turnS cs s'=inCodeS cs s':=by unfold turnS; rw [if_pos (by simpa using c1)]
      rw [e] at next
      walk_at "ww"
      refine c_111 hF' hs hc (by lia) hk hsp hI' hin'.1 hlt hl fun H2 hF2 hI2=>?_
      walk_at "ww"
      exact next H2 hF2 hI2
    · walk_at "ww"
      refine ite_both (fun c2=>?_) (fun c2=>?_)
      · have e:turnS cs s'=inStringS cs s':=by unfold turnS; rw [if_neg (by simpa using c1),if_pos (by simpa using c2)]
        rw [e] at next
        walk_at "ww"
        refine c_118 hF' hs hc (by lia) hk hsp hI' hin'.1 hlt hl fun H2 hF2 hI2=>?_
        walk_at "ww"
        exact next H2 hF2 hI2
      · have e:turnS cs s'=inCommentS cs s':=by unfold turnS; rw [if_neg (by simpa using c1),if_neg (by simpa using c2)]
        rw [e] at next
        walk_at "ww"
        refine c_125 hF' hs hc (by lia) hk hsp hI' hin'.1 hlt hl fun H2 hF2 hI2=>?_
        walk_at "ww"
        exact next H2 hF2 hI2
  · rw [if_neg (by simpa using hlt)]
    have hg2:goS cs (cs.length+1) s=s':=by
      rw [← hg]
      cases i with
      | zero=>rfl
      | succ j=>
        show (if s'.at_<cs.length then goS cs j (turnS cs s') else s')=s'
        rw [if_neg hlt]
    show WS _ _ _ _
    walk_at "ww"
    rw [ll]
    have hl:s'.sp.length≤999999:=by have:=hin'.2.2.2.1; lia
    refine c_97s (F:=F) (s:={ s' with at_:=(cs.length:Int) }) (by walk_at "le") hk hsp ⟨st,xs,get_set (by walk_at "hp"),by walk_at "hp",by walk_at "hp",by walk_at "tr"⟩ hl fun H2 hF2 hI2=>?_
    walk_at "ww"
    exact q H2 _ hF2 rfl (hg2 ▸ hin') (hg2 ▸ hI2)
theorem go_in {cs:List Int}:∀ (m:Nat) {s:Sc},InS cs.length s→InS cs.length (goS cs m s)
  | 0,_,h=>h
  | m+1,s,h=>by
    show InS _ (if s.at_<cs.length then goS cs m (turnS cs s) else s)
    split
    · exact go_in m (turn_in h ‹_›).1
    · exact h
theorem leave_in {n:Int} {s:Sc} (h:InS n s):∀ p∈(leaveS { s with at_:=n }).sp,0≤p.1∧p.1≤p.2.1∧p.2.1≤n:=by
  obtain ⟨h0,h1,h2,h3,h4⟩:=h
  unfold leaveS
  split
  · rename_i hh
    intro p hp
    rcases List.mem_append.mp hp with hp | hp
    · exact h4 p hp
    · simp only [List.mem_singleton] at hp; subst hp; simp only; lia
  · exact h4
theorem scan_in (cs:List Int) (st:Int×Int):∀ p∈(scanS cs st).2,0≤p.1∧p.1≤p.2.1∧p.2.1≤cs.length:=
  leave_in (go_in _ ⟨Int.le_refl _,Int.le_refl _,by simp,⟨by simp,by simp; lia⟩,by simp⟩)
theorem get_cut {H t:Hp} {k:Nat} (h:(H++t)[k]?=none):H[k]?=none:=get_none (by have:=List.getElem?_eq_none_iff.mp h; simp at this; lia)
theorem c_146 {n sg cd st:Nat} {a b:Int} {H:Hp} {cs:List Int} (hs:SignsF (fz H) sg) (hc:H[cd]?=some (.list (cs.map .int))) (l1:cs.length≤900000) (hst:H[st]?=some (.tup [.int a,.int b])) {Q:AV→Hp→Prop}
    (q:∀ r st' sp xs H',Keep [] H H'→H[sp]?=none→H'[r]?=some (.tup [.ref st',.ref sp])→H'[st']?=some (.tup [.int (scanS cs (a,b)).1.1,.int (scanS cs (a,b)).1.2])→H'[sp]?=some (.list xs)→Trips H' xs (scanS cs (a,b)).2→Q (.ref r) H'):WC (callF (n+5)) 146 [.ref sg,.ref cd,.ref st] H Q:=by
  refine run_146 fun ρ r1 r2 r3=>?_
  unfold b_146
  walk_at "ww"
  refine c_90 (by walk_at "hp") fun sp H1 k1 e1 n1 e2=>?_
  have k2:Keep [] H H1:=(Keep.trans Keep.app k1).drop (get_none (Nat.le_refl _))
  have h1:Le (fz H) H1:=Le.fz.ext k2
  walk_at "ww"
  refine c_132 (s:={ st:=(a,b),at_:=0,bg:=0,sp:=[] }) h1 hs hc l1 fz_new (get_cut n1) ⟨st,[],e1,h1 _ _ hst,e2,trivial⟩ ⟨Int.le_refl _,Int.le_refl _,by simp,⟨by simp,by simp; lia⟩,by simp⟩ fun H2 s' h2 es _ hI=>?_
  have e:scanS cs (a,b)=((leaveS s').st,(leaveS s').sp):=by rw [es]; rfl
  refine hI.elim fun st' xs i1 i2 i3 i4=>?_
  walk_at "ww"
  refine q _ st' sp xs _ (h2.app.keep) (get_cut n1) (by walk_at "hp") ?_ (by walk_at "hp") ?_
  · rw [e]; walk_at "hp"
  · rw [e]; exact i4.app
noncomputable def Els {α:Type} (P:AV→α→Prop) (xs:List AV) (ls:List α):Prop:=xs.length=ls.length∧∀ (i:Nat) (x:AV) (l:α),xs[i]?=some x→ls[i]?=some l→P x l
theorem Els.nil {α:Type} {P:AV→α→Prop}:Els P [] []:=⟨rfl,fun i x l h=>by simp at h⟩
theorem Els.imp {α:Type} {P R:AV→α→Prop} {xs:List AV} {ls:List α} (h:Els P xs ls) (k:∀ x l,P x l→R x l):Els R xs ls:=⟨h.1,fun i x l h1 h2=>k x l (h.2 i x l h1 h2)⟩
theorem Els.get {α:Type} {P:AV→α→Prop} {xs:List AV} {ls:List α} (h:Els P xs ls) {i:Nat} {l:α} (e:ls[i]?=some l):∃ x,xs[i]?=some x∧P x l:=by
  have hi:i<xs.length:=h.1 ▸ (List.getElem?_eq_some_iff.mp e).1
  exact ⟨xs[i],List.getElem?_eq_getElem hi,h.2 i _ l (List.getElem?_eq_getElem hi) e⟩
theorem Els.got {α:Type} {P:AV→α→Prop} {xs:List AV} {ls:List α} (h:Els P xs ls) {i:Nat} {x:AV} (e:xs[i]?=some x):∃ l,ls[i]?=some l∧P x l:=by
  have hi:i<ls.length:=h.1 ▸ (List.getElem?_eq_some_iff.mp e).1
  exact ⟨ls[i],List.getElem?_eq_getElem hi,h.2 i x _ e (List.getElem?_eq_getElem hi)⟩
theorem Els.append {α:Type} {P:AV→α→Prop} {xs ys:List AV} {ls ms:List α} (h:Els P xs ls) (k:Els P ys ms):Els P (xs++ys) (ls++ms):=by
  refine ⟨by simp [h.1,k.1],fun i x l h1 h2=>?_⟩
  by_cases hi:i<xs.length
  · rw [List.getElem?_append_left hi] at h1; rw [List.getElem?_append_left (h.1 ▸ hi)] at h2
    exact h.2 i x l h1 h2
  · rw [List.getElem?_append_right (by lia)] at h1; rw [List.getElem?_append_right (by rw [← h.1]; lia),← h.1] at h2
    exact k.2 _ x l h1 h2
theorem Els.one {α:Type} {P:AV→α→Prop} {x:AV} {l:α} (h:P x l):Els P [x] [l]:=⟨rfl,fun i y m h1 h2=>by
  cases i with
  | zero=>simp at h1 h2; subst h1; subst h2; exact h
  | succ i=>simp at h1⟩
theorem Els.take {α:Type} {P:AV→α→Prop} {xs:List AV} {ls:List α} (h:Els P xs ls) (n:Nat):Els P (xs.take n) (ls.take n):=⟨by simp [h.1],fun i x l h1 h2=>by
  rw [List.getElem?_take] at h1 h2
  split at h1
  · rename_i q; rw [if_pos q] at h2; exact h.2 i x l h1 h2
  · cases h1⟩
theorem Els.drop {α:Type} {P:AV→α→Prop} {xs:List AV} {ls:List α} (h:Els P xs ls) (n:Nat):Els P (xs.drop n) (ls.drop n):=⟨by simp [h.1],fun i x l h1 h2=>by
  rw [List.getElem?_drop] at h1 h2; exact h.2 _ x l h1 h2⟩
theorem Els.set {α:Type} {P:AV→α→Prop} {xs:List AV} {ls:List α} (h:Els P xs ls) (n:Nat) {x:AV} {l:α} (k:P x l):Els P (xs.set n x) (ls.set n l):=⟨by simp [h.1],fun i y m h1 h2=>by
  rw [List.getElem?_set] at h1 h2
  by_cases q:n=i
  · subst q
    rw [if_pos rfl] at h1 h2
    split at h1
    · rename_i q; rw [if_pos (h.1 ▸ q)] at h2; cases h1; cases h2; exact k
    · cases h1
  · rw [if_neg q] at h1 h2; exact h.2 i y m h1 h2⟩
theorem Els.snoc {α:Type} {P:AV→α→Prop} {xs:List AV} {ls:List α} (h:Els P xs ls) {x:AV} {l:α} (k:P x l):Els P (xs++[x]) (ls++[l]):=h.append (.one k)
theorem Els.cons {α:Type} {P:AV→α→Prop} {xs:List AV} {ls:List α} (h:Els P xs ls) {x:AV} {l:α} (k:P x l):Els P (x::xs) (l::ls):=Els.append (.one k) h
noncomputable def CodesV (F:Fz) (v:AV) (l:List Int):Prop:=∃ r,v=.ref r∧F r=some (.list (l.map .int))
noncomputable def PairV (F:Fz) (v:AV) (p:Int×Int):Prop:=∃ r,v=.ref r∧F r=some (.tup [.int p.1,.int p.2])
theorem CodesV.mono {F G:Fz} {v:AV} {l:List Int} (k:FLe F G) (h:CodesV F v l):CodesV G v l:=let ⟨r,e,q⟩:=h; ⟨r,e,k _ _ q⟩
theorem PairV.mono {F G:Fz} {v:AV} {l:Int×Int} (k:FLe F G) (h:PairV F v l):PairV G v l:=let ⟨r,e,q⟩:=h; ⟨r,e,k _ _ q⟩
theorem PairV.keep {H H':Hp} {M:List Nat} {v:AV} {l:Int×Int} (k:Keep M H H') (m:∀ j∈M,∀ ts,H[j]?≠some (.tup ts)) (h:PairV (fz H) v l):PairV (fz H') v l:=by
  obtain ⟨r,e,q⟩:=h
  exact ⟨r,e,k r _ (fun x=>m r x _ q) q⟩
theorem Keep.fle {H H':Hp} (k:Keep [] H H'):FLe (fz H) (fz H'):=fun j o e=>k j o (by walk_at "sm") e
noncomputable def nxt (cs:List Int) (st:Int×Int):Int×Int:=(scanS cs st).1
noncomputable def stAt (ls:List (List Int)) (i:Nat):Int×Int:=(ls.take i).foldl (fun st l=>nxt l st) (0,0)
theorem stAt_succ {ls:List (List Int)} {i:Nat} {l:List Int} (e:ls[i]?=some l):stAt ls (i+1)=nxt l (stAt ls i):=by
  unfold stAt
  rw [List.take_add_one,e]
  simp [List.foldl_append]
theorem stAt_take {ls ms:List (List Int)} {n i:Nat} (h:ls.take n=ms.take n) (hi:i≤n):stAt ls i=stAt ms i:=by
  unfold stAt
  have:ls.take i=ms.take i:=by
    have:=congrArg (List.take i) h
    rwa [List.take_take,List.take_take,Nat.min_eq_left hi] at this
  rw [this]
theorem stAt_shift {ls ms:List (List Int)} {x y:Nat} (h:ls.drop x=ms.drop y) (e:stAt ls x=stAt ms y):∀ d,stAt ls (x+d)=stAt ms (y+d):=by
  intro d
  induction d with
  | zero=>exact e
  | succ d ih=>
    have h2:ls[x+d]?=ms[y+d]?:=by rw [← List.getElem?_drop,← List.getElem?_drop,h]
    cases hl:ls[x+d]? with
    | some l=>rw [← Nat.add_assoc,stAt_succ hl,← Nat.add_assoc,stAt_succ (h2 ▸ hl),ih]
    | none=>
      have a1:=List.getElem?_eq_none_iff.mp hl
      have a2:=List.getElem?_eq_none_iff.mp (h2 ▸ hl)
      have b1:stAt ls (x+d+1)=stAt ls (x+d):=by unfold stAt; rw [List.take_of_length_le (by lia),List.take_of_length_le (by lia)]
      have b2:stAt ms (y+d+1)=stAt ms (y+d):=by unfold stAt; rw [List.take_of_length_le (by lia),List.take_of_length_le (by lia)]
      rw [← Nat.add_assoc,← Nat.add_assoc,b1,b2,ih]
noncomputable def sts (ls:List (List Int)) (n:Nat):List (Int×Int):=(List.range (n+1)).map (stAt ls)
theorem sts_len {ls:List (List Int)} {n:Nat}:(sts ls n).length=n+1:=by simp [sts]
theorem sts_get {ls:List (List Int)} {n i:Nat} (h:i≤n):(sts ls n)[i]?=some (stAt ls i):=by
  unfold sts
  rw [List.getElem?_map,List.getElem?_range (by lia)]; rfl
theorem sts_succ {ls:List (List Int)} {n:Nat}:sts ls (n+1)=sts ls n++[stAt ls (n+1)]:=by
  unfold sts; rw [List.range_succ,List.map_append]; rfl
theorem sts_take {ls ms:List (List Int)} {n m:Nat} (h:ls.take n=ms.take n) (hm:n≤m):(sts ls m).take (n+1)=sts ms n:=by
  apply List.ext_getElem?
  intro i
  rw [List.getElem?_take]
  by_cases hi:i<n+1
  · rw [if_pos hi,sts_get (by lia),sts_get (by lia),stAt_take h (by lia)]
  · rw [if_neg hi,List.getElem?_eq_none (by rw [sts_len]; lia)]
theorem sts_join {ls ms:List (List Int)} {x y n m:Nat} (h:ls.drop x=ms.drop y) (e:stAt ls x=stAt ms y) (hx:x≤n) (hd:n+y=m+x):sts ls x++(sts ms m).drop (y+1)=sts ls n:=by
  apply List.ext_getElem?
  intro i
  by_cases hi:i<x+1
  · rw [List.getElem?_append_left (by rw [sts_len]; exact hi),sts_get (by lia),sts_get (by lia)]
  · rw [List.getElem?_append_right (by rw [sts_len]; lia),List.getElem?_drop,sts_len]
    by_cases hn:i≤n
    · rw [sts_get (by lia),sts_get hn]
      have:=stAt_shift h e (i - x)
      rw [show x+(i - x)=i by lia] at this
      rw [this]
      congr 2; lia
    · rw [List.getElem?_eq_none (by rw [sts_len]; lia),List.getElem?_eq_none (by rw [sts_len]; lia)]
theorem last_sts {xs:List AV} {P:AV→Int×Int→Prop} {ls:List (List Int)} {n:Nat} (h:Els P xs (sts ls n)):∃ ys v,xs=ys++[v]∧P v (stAt ls n):=by
  obtain ⟨v,e,p⟩:=h.get (sts_get (Nat.le_refl n))
  have hl:xs.length=n+1:=by rw [h.1,sts_len]
  refine ⟨xs.take n,v,?_,p⟩
  have:=List.take_append_drop n xs
  rw [← this]
  congr 1
  · simp
  · apply List.ext_getElem?
    intro i
    rw [List.getElem?_drop]
    cases i with
    | zero=>simpa using e
    | succ i=>rw [List.getElem?_eq_none (by lia)]; rfl
theorem dat_pair {H:Hp} {n k:Nat} {a b:Int} (h:H[k]?=some (.tup [.int a,.int b])):datOf H (n+1) (.ref k)=some (.tuple [.int a,.int b]):=by
  show datRef (datOf H n) H[k]?=_
  rw [h]
  show (datAll (datOf H n) ([a,b].map .int)).map Dat.tuple=_
  rw [dat_ints]; rfl
theorem eq_pair {H:Hp} {i j:Nat} {p q:Int×Int} (h:H[i]?=some (.tup [.int p.1,.int p.2])) (k:H[j]?=some (.tup [.int q.1,.int q.2])):eqD H (.ref i) (.ref j)=some (decide (p=q)):=by
  unfold eqD
  rw [dat_pair h,dat_pair k]
  refine congrArg some (dec_iff ⟨fun h=>?_,fun h=>by rw [h]⟩)
  injection h with h
  injection h with h1 h
  injection h with h2 _
  injection h1 with h1
  injection h2 with h2
  exact Prod.ext h1 h2
theorem x_eqP {H:Hp} {i j:Nat} {p q:Int×Int} {Q:Bool→Prop} (h:H[i]?=some (.tup [.int p.1,.int p.2])) (k:H[j]?=some (.tup [.int q.1,.int q.2])) (r:Q (decide (p=q))):∃ c,cmpop .Eq (.ref i) (.ref j) H=some c∧Q c:=⟨_,eq_pair h k,r⟩
theorem c_174 {n k sg sl:Nat} {i:Int} {H:Hp} {sv:List AV} {v:AV} (h:H[k]?=some (.inst 177 [("signs",.ref sg),("states",.ref sl)])) (hs:H[sl]?=some (.list sv)) (l1:sv.length≤1000000) (e:pyIdx sv i=some v) {Q:AV→Hp→Prop} (q:Q v H):WC (callF (n+1)) 174 [.ref k,.int i] H Q:=by
  refine run_174 fun ρ r1 r2=>?_
  unfold b_174
  walk_at "ww"
  exact q
theorem ws_abs {c:SX} {ρ:Loc} {H:Hp} {Q:Fl→Loc→Hp→Prop} (P:Hp→Prop) (h:P H) (k:∀ H1,P H1→WS c ρ H1 Q):WS c ρ H Q:=k H h
theorem w_abs {c:EX} {ρ:Loc} {H:Hp} {Q:AV→Hp→Prop} (P:Hp→Prop) (h:P H) (k:∀ H1,P H1→W c ρ H1 Q):W c ρ H Q:=k H h
theorem c_160 {n k sg ln:Nat} {F:Fz} {H:Hp} {lv:List AV} {ls:List (List Int)} (hF:Le F H) (hk:F k=none) (h:H[k]?=some (.inst 177 [])) (hs:SignsF F sg) (hl:F ln=some (.list lv)) (hL:Els (CodesV F) lv ls) (l1:ls.length≤900000) (l2:∀ l∈ls,l.length≤900000) {Q:AV→Hp→Prop}
    (q:∀ sl sv H',Keep [k] H H'→H'[k]?=some (.inst 177 [("signs",.ref sg),("states",.ref sl)])→H[sl]?=none→H'[sl]?=some (.list sv)→Els (PairV (fz H')) sv (sts ls ls.length)→Q .none H'):WC (callF (n+6)) 160 [.ref k,.ref sg,.ref ln] H Q:=by
  refine run_160 fun ρ r1 r2 r3=>?_
  unfold b_160
  walk_at "ww"
  have ll:=hL.1
  refine ws_abs (fun H1=>∃ sl sv,H[sl]?=none∧Keep [sl,k] H H1∧H1[k]?=some (.inst 177 [("signs",.ref sg),("states",.ref sl)])∧H1[sl]?=some (.list sv)∧Els (PairV (fz H1)) sv (sts ls 0)) ⟨_,_,?_,by walk_at "kp",get_set (by walk_at "hp"),by walk_at "hp",?_⟩ ?_
  · exact get_none (by walk_at "sm")
  · refine Els.one ⟨_,rfl,?_⟩
    show (List.set _ _ _)[_]?=some (AO.tup [AV.int 0,AV.int 0])
    walk_at "hp"
  rintro H1 ⟨sl,sv,n1,k1,e1,e2,e3⟩
  have hsl:F sl=none:=hF.len (List.getElem?_eq_none_iff.mp n1)
  have le:∀ H',Keep [sl,k] H H'→Le F H':=fun H' k'=>hF.kept (by simp [hsl,hk]) k'
  refine ws_forF (xs:=lv) (by lia) (w_var r3 ⟨_,rfl,fun i ρ' H'=>i≤lv.length∧ρ' "self" = some (.ref k)∧ρ' "signs" = some (.ref sg)∧Keep [sl,k] H H'∧H'[k]?=some (.inst 177 [("signs",.ref sg),("states",.ref sl)])∧∃ sv,H'[sl]?=some (.list sv)∧Els (PairV (fz H')) sv (sts ls i),⟨Nat.zero_le _,r1,r2,k1,e1,sv,e2,e3⟩,?_,?_,?_⟩)
  · rintro i ρ' H' ⟨hi,_,_,k',_⟩
    exact ⟨hi,le H' k' _ _ hl⟩
  · rintro i x ρ' H' hx ⟨hi,r1,r2,k',e1,sv,e2,e3⟩
    obtain ⟨l,hl2,p⟩:=hL.got hx
    obtain ⟨cd,rfl,hcd⟩:=p
    obtain ⟨ys,v,rfl,p,rfl,hp⟩:=last_sts e3
    have ly:=e3.1
    rw [sts_len] at ly
    have h0:=le H' k'
    have hcd':=h0 _ _ hcd
    have hi2:i<lv.length:=(List.getElem?_eq_some_iff.mp hx).1
    walk_at "ww"
    refine c_146 (hs.mono h0.fle) hcd' (l2 l (List.mem_of_getElem? hl2)) hp fun r st' sp xs H2 k2 _ i1 i2 i3 i4=>?_
    have e1':=k2 _ _ (by walk_at "sm") e1
    have e2':=k2 _ _ (by walk_at "sm") e2
    walk_at "ww"
    have e:stAt ls (i+1)=(scanS l ((stAt ls i).fst,(stAt ls i).snd)).1:=stAt_succ hl2
    refine ⟨hi2,by walk_at "lk",by walk_at "lk",Keep.trans k' (Keep.trans (k2.mono (by walk_at "sm")) (Keep.set (by walk_at "sm"))),?_,_,get_set e2',?_⟩
    · exact get_set_ne e1' (ne_tag e2' e1' rfl)
    · rw [sts_succ,e]
      exact (e3.imp fun x l h=>PairV.keep (M:=[sl]) (Keep.trans (k2.mono (by walk_at "sm")) (Keep.set (by walk_at "sm"))) (by simp [e2]) h).snoc ⟨st',rfl,get_set_ne i2 (ne_tag e2' i2 rfl)⟩
  · rintro ρ' H' ⟨_,r1,r2,k',e1,sv,e2,e3⟩
    walk_at "ww"
    rw [ll] at e3
    exact q sl sv H' ((Keep.drop k' n1)) e1 n1 e2 e3
structure Cut (old new:List (List Int)) (a om nm:Nat):Prop where
  pre:old.take a=new.take a
  suf:old.drop (a+om)=new.drop (a+nm)
  lo:a+om≤old.length
  ln:a+nm≤new.length
theorem Cut.len {old new:List (List Int)} {a om nm:Nat} (h:Cut old new a om nm):old.length+nm=new.length+om:=by
  have:=congrArg List.length h.suf
  have h1:=h.lo
  have h2:=h.ln
  simp at this; lia
noncomputable def I167 (k ln sl fl:Nat) (H:Hp) (new:List (List Int)) (a om nm i:Nat) (ρ':Loc) (H':Hp):Prop:=∀ G:Prop,(∀ (x:Nat) (fv:List AV),i=new.length+1 - x→a≤x→x≤new.length+1→ρ' "self" = some (.ref k)→ρ' "lines" = some (.ref ln)→ρ' "first" = some (.int a)→ρ' "old_many" = some (.int om)→ρ' "new_many" = some (.int nm)→ρ' "old" = some (.ref sl)→ρ' "found" = some (.ref fl)→ρ' "at" = some (.int x)→Keep [fl] H H'→H'[fl]?=some (.list fv)→Els (PairV (fz H')) fv (sts new (min x new.length))→G)→G
theorem c_167 {n k sg sl ln:Nat} {F:Fz} {H:Hp} {sv lv:List AV} {old new:List (List Int)} {a om nm:Nat} (hF:Le F H) (hk:F k=none) (h:H[k]?=some (.inst 177 [("signs",.ref sg),("states",.ref sl)])) (hsl:F sl=some (.list sv)) (hS:Els (PairV F) sv (sts old old.length)) (hs:SignsF F sg) (hl:F ln=some (.list lv)) (hL:Els (CodesV F) lv new) (l1:new.length≤900000) (l0:old.length≤900000) (l2:∀ l∈new,l.length≤900000) (hc:Cut old new a om nm) {Q:AV→Hp→Prop}
    (q:∀ sl' sv' H' (e:Nat),Keep [k] H H'→H[sl']?=none→H'[k]?=some (.inst 177 [("signs",.ref sg),("states",.ref sl')])→H'[sl']?=some (.list sv')→Els (PairV (fz H')) sv' (sts new new.length)→e≤new.length→(∀ j,e≤j→j<new.length→a+nm≤j∧stAt new j=stAt old (j+om - nm))→Q (.int e) H'):WC (callF (n+6)) 167 [.ref k,.ref ln,.int a,.int om,.int nm] H Q:=by
  refine run_167 fun ρ r1 r2 r3 r4 r5=>?_
  have hsl':=hF _ _ hsl
  have hl':=hF _ _ hl
  have ls:=hS.1
  rw [sts_len] at ls
  have ll:=hL.1
  have c1:=hc.lo
  have c2:=hc.ln
  have c3:=hc.len
  unfold b_167
  walk_at "ww"
  refine ws_abs (fun H1=>∃ fv,Keep [H.length] H H1∧H1[H.length]?=some (.list fv)∧Els (PairV (fz H1)) fv (sts new a)) ⟨_,by walk_at "kp",by walk_at "hp",?_⟩ ?_
  · rw [show ((a:Int)+1)=((a+1:Nat):Int) by lia,pick_to (by lia),Int.toNat_natCast,← sts_take (m:=old.length) hc.pre (by lia)]
    exact (hS.take _).imp fun v p h=>h.mono fun j o e=>get_app (get_app (hF _ _ e))
  rintro H1 ⟨fv,k1,e1,e2⟩
  have hfl:F H.length=none:=hF.len (Nat.le_refl _)
  have le:∀ H',Keep [H.length] H H'→Le F H':=fun H' k'=>hF.kept (by simp [hfl]) k'
  have nk:k≠H.length:=(len_ne h).symm
  have nfl:H[H.length]?=none:=get_none (Nat.le_refl _)
  generalize H.length=fl at *
  refine ws_while (I167 k ln sl fl H new a om nm) (new.length+1 - a) (by lia)
    (fun _ g=>g a fv rfl (Nat.le_refl _) (by lia) (by walk_at "lk") (by walk_at "lk") (by walk_at "lk") (by walk_at "lk") (by walk_at "lk") (by walk_at "lk") (by walk_at "lk") (by walk_at "lk") k1 e1 (by rw [Nat.min_eq_left (by lia)]; exact e2)) ?_
  intro i ρ' H' inv
  refine inv _ fun x fv hi hax hx r1 r2 r3 r4 r5 r6 r7 r8 k' e1 e3=>?_
  have h0:=le H' k'
  have hl':=h0 _ _ hl
  have hsl':=h0 _ _ hsl
  have h':=k' _ _ (by simp [nk]) h
  obtain ⟨ys,v,rfl,w,rfl,hw⟩:=last_sts e3
  have ly:=e3.1
  rw [sts_len] at ly
  walk_at "ww"
  rw [ll]
  refine ite_both (fun q1=>?_) (fun q1=>?_)
  · have q1:x≤new.length:=by simpa using q1
    rw [Nat.min_eq_left q1] at e3 hw ly
    walk_at "ww"
    have rest:WS (sSeq
          (sIf (eCmp .Lt (eVar "at") (eBlt "len" [(eVar "lines")]))
            (sSeq
              (sExpr (eMeth (callF (n+5)) (eVar "found") "append" [(eIdx (eFun (callF (n+5)) 146 [(eAttr (eVar "self") "signs"),(eIdx (eVar "lines") (eVar "at")),(eIdx (eVar "found") (eNeg (eInt 1)))]) (eInt 0))]))
              sNil)
            sNil)
          (sSeq
            (sAssign (eBin .Add (eVar "at") (eInt 1)) (tVar "at"))
            sNil)) (upL ρ' "behind" (.int ((x:Int) - a - nm))) H' fun f ρ2 H3=>match f with
        | .next=>∃ j,j<i∧I167 k ln sl fl H new a om nm j ρ2 H3
        | .ret v=>Q v H3:=by
      walk_at "ww"
      rw [ll]
      refine ite_both (fun q2=>?_) (fun q2=>?_)
      · have q2:x<new.length:=by simpa using q2
        have hn:new[x]?=some new[x]:=List.getElem?_eq_getElem q2
        obtain ⟨u,hu,cd,rfl,hcd⟩:=hL.get hn
        have ix:=pyIdx_nat (i:=(x:Int)) (by lia) (by rw [Int.toNat_natCast]; exact hu)
        have hcd':=h0 _ _ hcd
        walk_at "ww"
        refine c_146 (hs.mono h0.fle) hcd' (l2 _ (List.getElem_mem ..)) hw fun r st' sp xs H2 k2 _ i1 i2 i3 i4=>?_
        have e1':=k2 _ _ (by walk_at "sm") e1
        walk_at "ww"
        have e:stAt new (x+1)=(scanS new[x] ((stAt new x).fst,(stAt new x).snd)).1:=stAt_succ hn
        refine ⟨i - 1,by lia,fun _ g=>g (x+1) _ (by lia) (by lia) (by lia) (by walk_at "lk") (by walk_at "lk") (by walk_at "lk") (by walk_at "lk") (by walk_at "lk") (by walk_at "lk") (by walk_at "lk") (by rw [show ((x+1:Nat):Int)=x+1 by lia]; walk_at "lk") (Keep.trans k' (Keep.trans (k2.mono (by walk_at "sm")) (Keep.set (by walk_at "sm")))) (get_set e1') ?_⟩
        rw [Nat.min_eq_left (by lia),sts_succ,e]
        exact (e3.imp fun x l h=>PairV.keep (M:=[fl]) (Keep.trans (k2.mono (by walk_at "sm")) (Keep.set (by walk_at "sm"))) (by simp [e1]) h).snoc ⟨st',rfl,get_set_ne i2 (ne_tag e1' i2 rfl)⟩
      · have q2:new.length≤x:=by simpa using q2
        walk_at "ww"
        refine ⟨i - 1,by lia,fun _ g=>g (x+1) _ (by lia) (by lia) (by lia) (by walk_at "lk") (by walk_at "lk") (by walk_at "lk") (by walk_at "lk") (by walk_at "lk") (by walk_at "lk") (by walk_at "lk") (by rw [show ((x+1:Nat):Int)=x+1 by lia]; walk_at "lk") k' e1 ?_⟩
        rw [Nat.min_eq_right (by lia)]
        rw [show x=new.length by lia] at e3
        exact e3
    refine ite_both (fun q3=>?_) (fun q3=>?_)
    · have q3:a+nm≤x:=by simp at q3; lia
      obtain ⟨u,hu,ow,rfl,how⟩:=hS.get (sts_get (ls:=old) (n:=old.length) (i:=x+om - nm) (by lia))
      have ix:pyIdx sv ((a:Int)+om+(x - a - nm))=some (.ref ow):=pyIdx_nat (by lia) (by rw [show ((a:Int)+om+(x - a - nm)).toNat=x+om - nm by lia]; exact hu)
      have how':=h0 _ _ how
      walk_at "ww"
      refine x_eqP hw how' ?_
      walk_at "ww"
      refine ite_both (fun q4=>?_) (fun q4=>?_)
      · have q4:stAt new x=stAt old (x+om - nm):=by simpa using q4
        have pk:pick sv (some ((a:Int)+om+(x - a - nm)+1)) none=sv.drop (x+om - nm+1):=by rw [pick_from (by lia)]; congr 1; lia
        walk_at "ww"
        rw [pk]
        walk_at "ww"
        have eS:∀ H2,Le F H2→FLe (fz H') (fz H2)→Els (PairV (fz H2)) (ys++[AV.ref w]++sv.drop (x+om - nm+1)) (sts new new.length):=fun H2 h2 h3=>by
          rw [← sts_join (x:=x) (y:=x+om - nm) (m:=old.length) ?_ q4 q1 (by lia)]
          · exact (e3.imp fun _ _=>PairV.mono h3).append ((hS.drop _).imp fun _ _=>PairV.mono h2.fle)
          · have:=congrArg (List.drop (x - (a+nm))) hc.suf
            rw [List.drop_drop,List.drop_drop] at this
            rw [show x=a+nm+(x - (a+nm)) by lia,← this]
            congr 1; lia
        have h0k:=h0.app (t:=[AO.list (sv.drop (x+om - nm+1))])
        refine q _ _ _ x ?_ (get_none (by have:=List.getElem?_eq_none_iff.mp nfl; have:=lt_get e1; simp; lia)) (get_set (by walk_at "hp")) (get_set_ne get_new1 (Ne.symm (len_ne (by walk_at "hp")))) ?_ q1 ?_
        · exact Keep.trans ((Keep.drop k' nfl).mono (by walk_at "sm")) (Keep.trans Keep.app (Keep.trans Keep.app (Keep.set (by walk_at "sm"))))
        · have e4:=eS _ (h0k.app (t:=[AO.list (ys++[AV.ref w]++sv.drop (x+om - nm+1))])) (fun j o e=>get_app (get_app e))
          exact e4.imp fun v p hp=>PairV.keep (M:=[k]) (Keep.set (by walk_at "sm")) (by simp only [List.mem_singleton]; rintro j rfl ts e; rw [get_app (get_app h')] at e; cases e) hp
        · intro j hj hj2
          refine ⟨by lia,?_⟩
          have h5:new.drop x=old.drop (x+om - nm):=by
            have:=congrArg (List.drop (x - (a+nm))) hc.suf
            rw [List.drop_drop,List.drop_drop] at this
            rw [show x=a+nm+(x - (a+nm)) by lia,← this]
            congr 1; lia
          have:=stAt_shift h5 q4 (j - x)
          rw [show x+(j - x)=j by lia] at this
          rw [this]; congr 1; lia
      · repeat first | exact rest | walk_at "w"
    · repeat first | exact rest | walk_at "w"
  · have q1:new.length<x:=by simpa using q1
    rw [Nat.min_eq_right (by lia)] at e3
    walk_at "ww"
    rw [ll]
    have:Keep [k] H (H'.set k (.inst 177 [("signs",.ref sg),("states",.ref fl)])):=Keep.trans ((Keep.drop k' nfl).mono (by walk_at "sm")) (Keep.set (by walk_at "sm"))
    refine q fl _ _ new.length this nfl (get_set h') (by walk_at "hp") ?_ (Nat.le_refl _) (by lia)
    exact e3.imp fun v p hp=>PairV.keep (M:=[k]) (Keep.set (by walk_at "sm")) (by simp [h']) hp
noncomputable def isW (c:Int):Bool:=decide ((48≤c∧c≤57)∨(65≤c∧c≤90)∨c=95∨(97≤c∧c≤122)∨c ≥ 128)
theorem c_299 {n:Nat} {c:Int} {H:Hp} {Q:AV→Hp→Prop} (q:Q (.bool (isW c)) H):WC (callF (n+1)) 299 [.int c] H Q:=by
  refine run_299 fun ρ r1=>?_
  unfold b_299
  have qt:((48≤c∧c≤57)∨(65≤c∧c≤90)∨c=95∨(97≤c∧c≤122)∨c ≥ 128)→Q (.bool true) H:=fun h=>by
    rw [isW,decide_eq_true h] at q; exact q
  have two:∀ (a b:Int) (R:AV→Hp→Prop),R (.bool (decide (a≤c∧c≤b))) H→W (eCmp2 .LtE .LtE (eInt a) (eVar "code") (eInt b)) ρ H R:=fun a b R hR=>by
    walk_at "ww"
    refine ite_both (fun h=>?_) (fun h=>?_)
    · walk_at "ww"
      rw [show decide (a≤c∧c≤b)=decide (c≤b) by simp at h; simp [h]] at hR
      exact hR
    · rw [show decide (a≤c∧c≤b)=false by simp at h ⊢; intro; lia] at hR
      exact hR
  refine ws_seq (ws_ret (w_any (two _ _ _ (x_bool (ite_both (fun h1=>?_) (fun h1=>?_))))))
  · exact qt (.inl (by simpa using h1))
  refine w_any (two _ _ _ (x_bool (ite_both (fun h2=>?_) (fun h2=>?_))))
  · exact qt (.inr (.inl (by simpa using h2)))
  walk_at "ww"
  refine ite_both (fun h3=>?_) (fun h3=>?_)
  · exact qt (.inr (.inr (.inl (by simpa using h3))))
  refine w_any (two _ _ _ (x_bool (ite_both (fun h4=>?_) (fun h4=>?_))))
  · exact qt (.inr (.inr (.inr (.inl (by simpa using h4)))))
  walk_at "ww"
  rw [isW] at q
  have:decide ((48≤c∧c≤57)∨(65≤c∧c≤90)∨c=95∨(97≤c∧c≤122)∨c ≥ 128)=decide (c ≥ 128):=by
    refine dec_iff ⟨fun h=>?_,fun h=>.inr (.inr (.inr (.inr h)))⟩
    simp at h1 h2 h3 h4
    lia
  rw [this] at q
  exact q
noncomputable def cAt (cs:List Int) (i:Nat):Int:=cs.getD i 0
theorem cAt_get {cs:List Int} {i:Int} (h0:0≤i) (h1:i<cs.length):pyIdx (cs.map AV.int) i=some (.int (cAt cs i.toNat)):=codeAt_get h0 h1
noncomputable def wordEnd (cs:List Int):Nat→Nat→Nat
  | 0,l=>l
  | m+1,l=>if l<cs.length∧isW (cAt cs l)=true then wordEnd cs m (l+1) else l
theorem wordEnd_in {cs:List Int}:∀ (m l:Nat),l≤cs.length→l≤wordEnd cs m l∧wordEnd cs m l≤cs.length
  | 0,l,h=>⟨Nat.le_refl _,h⟩
  | m+1,l,h=>by
    unfold wordEnd
    split
    · rename_i q; have:=wordEnd_in (cs:=cs) m (l+1) q.1; lia
    · lia
noncomputable def searchS (ws:List (List Int)) (cs:List Int):Nat→Nat→Option (Nat×Nat)
  | 0,_=>none
  | m+1,i=>if i<cs.length then
      (if isW (cAt cs i)=true∧(i=0∨isW (cAt cs (i - 1))=false) then
        (if (cs.take (wordEnd cs cs.length i)).drop i∈ws then some (i,wordEnd cs cs.length i) else searchS ws cs m (wordEnd cs cs.length i))
      else searchS ws cs m (i+1))
    else none
theorem wordEnd_lt {cs:List Int} {i:Nat} (h:i<cs.length) (hw:isW (cAt cs i)=true):i<wordEnd cs cs.length i∧wordEnd cs cs.length i≤cs.length:=by
  cases hl:cs.length with
  | zero=>lia
  | succ m=>
    unfold wordEnd
    rw [if_pos ⟨h,hw⟩]
    have:=wordEnd_in (cs:=cs) m (i+1) h
    lia
theorem search_in {ws:List (List Int)} {cs:List Int}:∀ (m i:Nat) {a l:Nat},searchS ws cs m i=some (a,l)→i≤a∧a<l∧l≤cs.length
  | 0,_,_,_,h=>by cases h
  | m+1,i,a,l,h=>by
    unfold searchS at h
    split at h
    · rename_i hi
      split at h
      · rename_i hw
        have:=wordEnd_lt hi hw.1
        split at h
        · cases h; lia
        · have:=search_in m _ h; lia
      · have:=search_in m _ h; lia
    · cases h
theorem dat_lists {H:Hp} {n:Nat}:∀ {xs:List AV} {ls:List (List Int)},Els (CodesV (fz H)) xs ls→datAll (datOf H (n+1)) xs=some (ls.map fun l=>.list (l.map .int))
  | [],[],_=>rfl
  | [],_::_,h=>by cases h.1
  | _::_,[],h=>by cases h.1
  | x::xs,l::ls,h=>by
    obtain ⟨r,rfl,hr⟩:=h.2 0 x l rfl rfl
    have h2:Els (CodesV (fz H)) xs ls:=⟨by have:=h.1; simpa using this,fun i y m h1 h2=>h.2 (i+1) y m (by simpa using h1) (by simpa using h2)⟩
    rw [datAll,dat_lists h2,dat_list hr]; rfl
open Classical in
theorem inD_lists {H:Hp} {k:Nat} {l:List Int} {xs:List AV} {ls:List (List Int)} (hk:H[k]?=some (.list (l.map .int))) (h:Els (CodesV (fz H)) xs ls):inD H (.ref k) xs=some (decide (l∈ls)):=by
  unfold inD
  rw [dat_list hk,dat_lists h]
  refine congrArg some ?_
  rw [Bool.eq_iff_iff,List.any_eq_true,decide_eq_true_iff]
  constructor
  · rintro ⟨d,hd,e⟩
    obtain ⟨j,hj,rfl⟩:=List.mem_map.mp hd
    have e:=of_decide_eq_true e
    rw [dint_inj] at e; exact e ▸ hj
  · intro h; exact ⟨_,List.mem_map.mpr ⟨l,h,rfl⟩,by simp⟩
theorem x_inLL {k j:Nat} {l:List Int} {xs:List AV} {ls:List (List Int)} {H:Hp} {Q:Bool→Prop} (hk:H[k]?=some (.list (l.map .int))) (hj:H[j]?=some (.list xs)) (h:Els (CodesV (fz H)) xs ls) (q:Q (decide (l∈ls))):∃ c,cmpop .In (.ref k) (.ref j) H=some c∧Q c:=
  ⟨_,bind_e (o:=items H[j]?) (by rw [hj]; rfl) (inD_lists hk h),by rw [dec_iff (Iff.refl (l∈ls))] at q; exact q⟩
theorem WS.mono {c:SX} {ρ:Loc} {H:Hp} {Q R:Fl→Loc→Hp→Prop} (h:WS c ρ H Q) (k:∀ f ρ H,Q f ρ H→R f ρ H):WS c ρ H R:=let ⟨f,ρ',H',e,q⟩:=h; ⟨f,ρ',H',e,k _ _ _ q⟩
theorem WS.tail {c:SX} {ρ:Loc} {H:Hp} {Q:Fl→Loc→Hp→Prop} (h:WS c ρ H Q):WS c ρ H fun f ρ1 H1=>match f with
    | .next=>WS sNil ρ1 H1 Q
    | .ret v=>Q (.ret v) ρ1 H1:=h.mono fun f ρ H q=>by cases f with
    | next=>exact ws_nil q
    | ret v=>exact q
theorem c_320 {n k cd wl:Nat} {F:Fz} {H:Hp} {cs:List Int} {ws:List (List Int)} {wv:List AV} {s:Nat} (hF:Le F H) (h:F k=some (.inst 323 [("words",.ref wl)])) (hw:F wl=some (.list wv)) (hW:Els (CodesV F) wv ws) (hc:F cd=some (.list (cs.map .int))) (l1:cs.length≤900000) {Q:AV→Hp→Prop}
    (q0:searchS ws cs (cs.length+1) s=none→∀ H',Keep [] H H'→Q .none H')
    (q1:∀ a l,searchS ws cs (cs.length+1) s=some (a,l)→∀ r g H',Keep [] H H'→H'[r]?=some (.list [.ref g])→H'[g]?=some (.tup [.int (a:Nat),.int (l:Nat)])→Q (.ref r) H'):WC (callF (n+2)) 320 [.ref k,.ref cd,.int s,.int cs.length] H Q:=by
  refine run_320 fun ρ r1 r2 r3 r4=>?_
  unfold b_320
  walk_at "ww"
  have ll:(cs.map AV.int).length=cs.length:=List.length_map ..
  refine ws_while (fun i ρ' H'=>∃ x:Nat,ρ' "self" = some (.ref k)∧ρ' "codes" = some (.ref cd)∧ρ' "end" = some (.int cs.length)∧ρ' "at" = some (.int x)∧Keep [] H H'∧searchS ws cs i x=searchS ws cs (cs.length+1) s∧(x=s∨x≤cs.length)∧cs.length<i+x) (cs.length+1) (by lia)
    ⟨s,by walk_at "lk",by walk_at "lk",by walk_at "lk",by walk_at "lk",Keep.refl,rfl,.inl rfl,by lia⟩ ?_
  rintro i ρ' H' ⟨x,r1,r2,r3,r4,k',hs,hx,hi⟩
  have h0:Le F H':=hF.ext k'
  have h1:=h0 _ _ h
  have h2:=h0 _ _ hw
  have h3:=h0 _ _ hc
  walk_at "ww"
  refine ite_both (fun c1=>?_) (fun c1=>?_)
  · have c1:x<cs.length:=by simpa using c1
    obtain ⟨m,rfl⟩:∃ m,i=m+1:=⟨i - 1,by lia⟩
    have ix:=cAt_get (cs:=cs) (i:=(x:Int)) (by lia) (by lia)
    rw [Int.toNat_natCast] at ix
    walk_at "ww"
    refine c_299 ?_
    walk_at "ww"
    unfold searchS at hs
    rw [if_pos c1] at hs
    have skip:¬ (isW (cAt cs x)=true∧(x=0∨isW (cAt cs (x - 1))=false))→WS (sSeq (sAssign (eBin .Add (eVar "at") (eInt 1)) (tVar "at")) sNil) ρ' H' fun f ρ2 H3=>match f with
        | .next=>∃ j,j<m+1∧∃ x:Nat,ρ2 "self" = some (.ref k)∧ρ2 "codes" = some (.ref cd)∧ρ2 "end" = some (.int cs.length)∧ρ2 "at" = some (.int x)∧Keep [] H H3∧searchS ws cs j x=searchS ws cs (cs.length+1) s∧(x=s∨x≤cs.length)∧cs.length<j+x
        | .ret v=>Q v H3:=fun hn=>by
      walk_at "ww"
      rw [if_neg hn] at hs
      exact ⟨m,by lia,x+1,by walk_at "lk",by walk_at "lk",by walk_at "lk",by rw [show ((x+1:Nat):Int)=x+1 by lia]; walk_at "lk",k',hs,.inr c1,by lia⟩
    have word:(isW (cAt cs x)=true∧(x=0∨isW (cAt cs (x - 1))=false))→WS (sSeq
              (sAssign (eVar "at") (tVar "last"))
              (sSeq
                (sWhile (eAll [(eCmp .Lt (eVar "last") (eVar "end")),(eFun (callF (n+1)) 299 [(eIdx (eVar "codes") (eVar "last"))])])
                  (sSeq
                    (sAssign (eBin .Add (eVar "last") (eInt 1)) (tVar "last"))
                    sNil))
                (sSeq
                  (sIf (eCmp .In (eSliceV "codes" (some (eVar "at")) (some (eVar "last"))) (eAttr (eVar "self") "words"))
                    (sSeq
                      (sRet (eList [(eTup [(eVar "at"),(eVar "last")])]))
                      sNil)
                    sNil)
                  (sSeq
                    (sAssign (eVar "last") (tVar "at"))
                    sNil)))) ρ' H' fun f ρ2 H3=>match f with
        | .next=>∃ j,j<m+1∧∃ x:Nat,ρ2 "self" = some (.ref k)∧ρ2 "codes" = some (.ref cd)∧ρ2 "end" = some (.int cs.length)∧ρ2 "at" = some (.int x)∧Keep [] H H3∧searchS ws cs j x=searchS ws cs (cs.length+1) s∧(x=s∨x≤cs.length)∧cs.length<j+x
        | .ret v=>Q v H3:=fun hp=>by
      have we:=wordEnd_lt c1 hp.1
      generalize hE:wordEnd cs cs.length x=E at *
      walk_at "ww"
      refine ws_while (fun i ρ2 H2=>∃ l:Nat,ρ2 "self" = some (.ref k)∧ρ2 "codes" = some (.ref cd)∧ρ2 "end" = some (.int cs.length)∧ρ2 "at" = some (.int x)∧ρ2 "last" = some (.int l)∧Keep [] H H2∧wordEnd cs i l=E∧cs.length≤i+l) cs.length (by lia)
        ⟨x,by walk_at "lk",by walk_at "lk",by walk_at "lk",by walk_at "lk",by walk_at "lk",k',hE,by lia⟩ ?_
      rintro i ρ2 H2 ⟨l,r1,r2,r3,r4,r5,k2,he,hil⟩
      have g0:Le F H2:=hF.ext k2
      have g1:=g0 _ _ h
      have g2:=g0 _ _ hw
      have g3:=g0 _ _ hc
      have exit:wordEnd cs i l=l→WS (sSeq
                  (sIf (eCmp .In (eSliceV "codes" (some (eVar "at")) (some (eVar "last"))) (eAttr (eVar "self") "words"))
                    (sSeq
                      (sRet (eList [(eTup [(eVar "at"),(eVar "last")])]))
                      sNil)
                    sNil)
                  (sSeq
                    (sAssign (eVar "last") (tVar "at"))
                    sNil)) ρ2 H2 fun f ρ2 H3=>match f with
        | .next=>∃ j,j<m+1∧∃ x:Nat,ρ2 "self" = some (.ref k)∧ρ2 "codes" = some (.ref cd)∧ρ2 "end" = some (.int cs.length)∧ρ2 "at" = some (.int x)∧Keep [] H H3∧searchS ws cs j x=searchS ws cs (cs.length+1) s∧(x=s∨x≤cs.length)∧cs.length<j+x
        | .ret v=>Q v H3:=fun hl=>by
        rw [hl] at he
        subst he
        have pk:pick (cs.map AV.int) (some x) (some l)=((cs.take l).drop x).map AV.int:=by
          rw [pick_mid (by lia) (by lia),map_cut]; rfl
        walk_at "ww"
        rw [pk]
        refine x_inLL (get_new1) (by walk_at "hp") (hW.imp fun v p hp=>hp.mono (g0.app.fle)) ?_
        rw [if_pos hp] at hs
        walk_at "ww"
        refine ite_both (fun c2=>?_) (fun c2=>?_)
        · walk_at "ww"
          rw [if_pos (by simpa using c2)] at hs
          exact q1 x l hs.symm _ _ _ (by walk_at "kp") get_new1 (by walk_at "hp")
        · walk_at "ww"
          rw [if_neg (by simpa using c2)] at hs
          exact ⟨m,by lia,l,by walk_at "lk",by walk_at "lk",by walk_at "lk",by walk_at "lk",by walk_at "kp",hs,.inr we.2,by lia⟩
      walk_at "ww"
      refine ite_both (fun d1=>?_) (fun d1=>?_)
      · have d1:l<cs.length:=by simpa using d1
        obtain ⟨j,rfl⟩:∃ j,i=j+1:=⟨i - 1,by lia⟩
        have ix2:=cAt_get (cs:=cs) (i:=(l:Int)) (by lia) (by lia)
        rw [Int.toNat_natCast] at ix2
        walk_at "ww"
        refine c_299 ?_
        walk_at "ww"
        refine ite_both (fun d2=>?_) (fun d2=>?_)
        · walk_at "ww"
          refine ⟨j,by lia,l+1,by walk_at "lk",by walk_at "lk",by walk_at "lk",by walk_at "lk",by rw [show ((l+1:Nat):Int)=l+1 by lia]; walk_at "lk",k2,?_,by lia⟩
          unfold wordEnd at he
          rw [if_pos ⟨d1,d2⟩] at he
          exact he
        · have ex:=exit (by unfold wordEnd; rw [if_neg (by simp [d2])])
          repeat first | exact ex | walk_at "w"
      · have d1:¬ l<cs.length:=by simpa using d1
        have ex:=exit (by
          cases i with
          | zero=>rfl
          | succ j=>unfold wordEnd; rw [if_neg (by simp [d1])])
        repeat first | exact ex | walk_at "w"
    refine ite_both (fun c2=>?_) (fun c2=>?_)
    · walk_at "ww"
      refine ite_both (fun c3=>?_) (fun c3=>?_)
      · have wd:=word ⟨c2,.inl (by simp at c3; lia)⟩
        repeat first | exact wd | exact WS.cont (by assumption) wd.tail | walk_at "w"
      · have c3:x≠0:=by simp at c3; lia
        have ix3:=cAt_get (cs:=cs) (i:=(x:Int) - 1) (by lia) (by lia)
        rw [show ((x:Int) - 1).toNat=x - 1 by lia] at ix3
        walk_at "ww"
        refine c_299 ?_
        walk_at "ww"
        refine ite_both (fun c4=>?_) (fun c4=>?_)
        · have wd:=word ⟨c2,.inr (by simpa using c4)⟩
          repeat first | exact wd | exact WS.cont (by assumption) wd.tail | walk_at "w"
        · have sk:=skip (by simp [c3]; intro; simpa using c4)
          repeat first | exact sk | exact WS.cont (by assumption) sk.tail | walk_at "w"
    · have sk:=skip (by simp [c2])
      repeat first | exact sk | exact WS.cont (by assumption) sk.tail | walk_at "w"
  · have c1:cs.length≤x:=by simpa using c1
    walk_at "ww"
    refine q0 ?_ _ k'
    rw [← hs]
    cases i with
    | zero=>rfl
    | succ m=>unfold searchS; rw [if_neg (by lia)]
noncomputable def nw (B:Nat) (H:Hp):Fz:=fun j=>if B≤j then H[j]? else none
theorem nw_fz {B:Nat} {H:Hp}:FLe (nw B H) (fz H):=fun j o e=>by unfold nw at e; split at e; exact e; cases e
theorem nw_get {B:Nat} {H:Hp} {j:Nat} {o:AO} (e:nw B H j=some o):H[j]?=some o:=nw_fz j o e
theorem nw_lo {B:Nat} {H:Hp} {j:Nat} {o:AO} (e:nw B H j=some o):B≤j:=by unfold nw at e; split at e; assumption; cases e
theorem nw_mk {B:Nat} {H:Hp} {j:Nat} {o:AO} (b:B≤j) (e:H[j]?=some o):nw B H j=some o:=by unfold nw; rw [if_pos b]; exact e
theorem nw_keep {B:Nat} {H H':Hp} (k:Keep [] H H'):FLe (nw B H) (nw B H'):=fun j o e=>nw_mk (nw_lo e) (k j o (by walk_at "sm") (nw_get e))
noncomputable def pf (way face:Int) (f:List Int):List Int:=if way=1 then [face] else if face∈f then f else face::f
noncomputable def paintS (way face:Int):Nat→Nat→List (List Int)→List (List Int)
  | 0,_,fs=>fs
  | m+1,i,fs=>paintS way face m (i+1) (fs.set i (pf way face (fs.getD i [])))
theorem paintS_succ {way face:Int} {m i:Nat} {fs:List (List Int)}:paintS way face (m+1) i fs=paintS way face m (i+1) (fs.set i (pf way face (fs.getD i []))):=rfl
noncomputable def okFc (f:List Int):Prop:=f.length≤1∨(3∈f∧f.length≤2)
noncomputable def okWy (way face:Int):Prop:=way=1∨(way=3∧face=3)
theorem pf_ok {way face:Int} {f:List Int} (hw:okWy way face) (h:okFc f):okFc (pf way face f):=by
  unfold pf
  split
  · exact .inl (by walk_at "sm")
  · split
    · exact h
    · rename_i h1 h2
      rcases hw with hw | ⟨_,rfl⟩
      · exact absurd hw h1
      · rcases h with h | h
        · exact .inr ⟨by simp,by simp; lia⟩
        · exact absurd h.1 h2
theorem setFc_ok {fs:List (List Int)} {i:Nat} {f:List Int} (h:∀ f∈fs,okFc f) (hf:okFc f):∀ g∈fs.set i f,okFc g:=fun g hg=>by
  rcases List.mem_or_eq_of_mem_set hg with hg | hg
  · exact h g hg
  · rw [hg]; exact hf
theorem getFc_ok {fs:List (List Int)} (h:∀ f∈fs,okFc f) (i:Nat):okFc (fs.getD i []):=by
  rw [List.getD_eq_getElem?_getD]
  cases e:fs[i]? with
  | none=>exact .inl (by walk_at "sm")
  | some f=>exact h f (List.mem_of_getElem? e)
theorem paint_ok {way face:Int} (hw:okWy way face):∀ (m i:Nat) (fs:List (List Int)),(∀ f∈fs,okFc f)→∀ f∈paintS way face m i fs,okFc f
  | 0,_,_,h=>h
  | m+1,i,fs,h=>paint_ok hw m (i+1) _ (setFc_ok h (pf_ok hw (getFc_ok h i)))
theorem paint_len {way face:Int}:∀ (m i:Nat) (fs:List (List Int)),(paintS way face m i fs).length=fs.length
  | 0,_,_=>rfl
  | m+1,i,fs=>by unfold paintS; rw [paint_len]; simp
theorem faces_ne {B:Nat} {H:Hp} {fc r:Nat} {xs:List AV} {fs:List (List Int)} {l:List Int} (h:H[fc]?=some (.list xs)) (e:Els (CodesV (nw B H)) xs fs) {i:Nat} (hx:xs[i]?=some (.ref r)) (hr:H[r]?=some (.list (l.map .int))):fc≠r:=by
  rintro rfl
  rw [h] at hr
  injection hr with hr
  injection hr with hr
  rw [hr,List.getElem?_map] at hx
  cases hl:l[i]? <;> rw [hl] at hx <;> cases hx
theorem faces_set {B:Nat} {H:Hp} {fc:Nat} {o:AO} {xs:List AV} {fs:List (List Int)} (h:H[fc]?=some (.list xs)) (e:Els (CodesV (nw B H)) xs fs):Els (CodesV (nw B (H.set fc o))) xs fs:=
  ⟨e.1,fun i x l h1 h2=>by
    obtain ⟨r,rfl,hr⟩:=e.2 i x l h1 h2
    exact ⟨r,rfl,nw_mk (nw_lo hr) (get_set_ne (nw_get hr) (faces_ne h e h1 (nw_get hr)))⟩⟩
theorem Els.app {B:Nat} {H t:Hp} {xs:List AV} {fs:List (List Int)} (e:Els (CodesV (nw B H)) xs fs):Els (CodesV (nw B (H++t))) xs fs:=e.imp fun _ _ h=>h.mono (nw_keep Keep.app)
noncomputable def I228 (B fc:Nat) (H:Hp) (s e:Nat) (face way:Int) (fs:List (List Int)) (x:Int) (ρ':Loc) (H':Hp):Prop:=∀ G:Prop,(∀ (i:Nat) (xs:List AV) (fs':List (List Int)),x=i→s≤i→i≤e→fs'.length=fs.length→(∀ f∈fs',okFc f)→ρ' "faces" = some (.ref fc)→ρ' "face" = some (.int face)→ρ' "way" = some (.int way)→Keep [fc] H H'→H'[fc]?=some (.list xs)→Els (CodesV (nw B H')) xs fs'→paintS way face (e - i) i fs'=paintS way face (e - s) s fs→G)→G
theorem c_228 {B n fc:Nat} {H:Hp} {xs:List AV} {fs:List (List Int)} {s e:Nat} {face way:Int} (hB:B≤fc) (h:H[fc]?=some (.list xs)) (hE:Els (CodesV (nw B H)) xs fs) (hse:s≤e) (he:e≤fs.length) (l1:fs.length≤900000) (hw:okWy way face) (hok:∀ f∈fs,okFc f) {Q:AV→Hp→Prop}
    (q:∀ xs' H',Keep [fc] H H'→H'[fc]?=some (.list xs')→Els (CodesV (nw B H')) xs' (paintS way face (e - s) s fs)→Q .none H'):WC (callF (n+1)) 228 [.ref fc,.int s,.int e,.int face,.int way] H Q:=by
  refine run_228 fun ρ r1 r2 r3 r4 r5=>?_
  unfold b_228
  have hl:=hE.1
  walk_at "ww"
  rw [show decide (way=0)=false by rcases hw with rfl | ⟨rfl,_⟩ <;> rfl]
  walk_at "ww"
  refine ws_forR2 ?_
  walk_at "ww"
  refine ⟨s,e,rfl,rfl,by lia,I228 B fc H s e face way fs,fun _ g=>g s xs fs rfl (Nat.le_refl _) hse rfl hok r1 r4 r5 Keep.refl h hE rfl,?_,?_⟩
  · intro x ρ' H' ha hb inv
    refine inv _ fun i xs fs' hx hi hie hfl hok r1 r4 r5 k' h hE hp=>?_
    subst hx
    have hl:=hE.1
    have hi2:i<e:=by lia
    have hf:fs'[i]?=some fs'[i]:=List.getElem?_eq_getElem (by lia)
    obtain ⟨v,hv,r,rfl,hr⟩:=hE.get hf
    have hr':H'[r]?=some (.list (fs'[i].map .int)):=nw_get hr
    have ix:=pyIdx_nat (i:=(i:Int)) (by lia) (by rw [Int.toNat_natCast]; exact hv)
    have nfr:=faces_ne h hE hv hr'
    obtain ⟨m,hm⟩:∃ m,e - i=m+1:=⟨e - i - 1,by lia⟩
    rw [hm] at hp
    rw [paintS_succ] at hp
    have hg:fs'.getD i []=fs'[i]:=by rw [List.getD_eq_getElem?_getD,hf]; rfl
    rw [hg] at hp
    have hm2:e - (i+1)=m:=by lia
    have hset:∀ (H2:Hp) (r2:Nat) (l:List Int),H2[fc]?=some (.list xs)→Keep [fc] H' H2→Els (CodesV (nw B H2)) xs fs'→H2[r2]?=some (.list (l.map .int))→r2≠fc→l=pf way face fs'[i]→B≤r2→∀ ρ2:Loc,ρ2 "faces" = some (.ref fc)→ρ2 "face" = some (.int face)→ρ2 "way" = some (.int way)→
        I228 B fc H s e face way fs ((i:Int)+1) ρ2 (H2.set fc (.list (xs.set i (.ref r2)))):=
      fun H2 r2 l g1 g2 g3 g4 g5 g6 g7 ρ2 q1 q2 q3=>fun _ g=>g (i+1) _ (fs'.set i l) rfl (by lia) (by lia) (by simp [hfl]) (by rw [g6]; exact setFc_ok hok (pf_ok hw (hok _ (List.getElem_mem _)))) q1 q2 q3 (Keep.trans k' (Keep.trans g2 (Keep.set (by walk_at "sm")))) (get_set g1) ((faces_set g1 g3).set i ⟨r2,rfl,nw_mk g7 (get_set_ne g4 g5.symm)⟩) (by rw [hm2,g6]; exact hp)
    walk_at "ww"
    refine x_inT (l:=[0,1]) get_new1 ?_
    rcases hw with rfl | ⟨rfl,hf3⟩
    · rw [show decide ((1:Int)∈([0,1]:List Int))=true by decide]
      walk_at "ww"
      refine hset _ _ [face] (by walk_at "hp") (by walk_at "kp") hE.app.app get_new1 (len_ne (by walk_at "hp")) rfl (by have:=lt_get h; simp; lia) _ (by walk_at "lk") (by walk_at "lk") (by walk_at "lk")
    · rw [show decide ((3:Int)∈([0,1]:List Int))=false by decide]
      walk_at "ww"
      rw [show decide ((3:Int)=2)=false by decide]
      walk_at "ww"
      rw [show decide ((3:Int)=3)=true by decide]
      walk_at "ww"
      refine ite_both (fun c1=>?_) (fun c1=>?_)
      · have c1:face ∉ fs'[i]:=by simpa using c1
        have l2:fs'[i].length≤2:=by rcases hok _ (List.getElem_mem (l:=fs') (n:=i) (by lia)) with h | h <;> lia
        walk_at "ww"
        refine hset _ _ (face::fs'[i]) (by walk_at "hp") (by walk_at "kp") hE.app.app.app get_new1 (len_ne (by walk_at "hp")) ?_ (by have:=lt_get h; simp; lia) _ (by walk_at "lk") (by walk_at "lk") (by walk_at "lk")
        unfold pf; rw [if_neg (by decide),if_neg c1]
      · have c1:face∈fs'[i]:=by simpa using c1
        walk_at "ww"
        rw [show decide ((3:Int)=4)=false by decide]
        walk_at "ww"
        have hpf:pf 3 face fs'[i]=fs'[i]:=by unfold pf; rw [if_neg (by decide),if_pos c1]
        rw [hpf,List.set_getElem_self] at hp
        exact fun _ g=>g (i+1) xs fs' rfl (by lia) (by lia) hfl hok (by walk_at "lk") (by walk_at "lk") (by walk_at "lk") (by walk_at "kp") (by walk_at "hp") hE.app (by rw [hm2]; exact hp)
  · intro x ρ' H' ha hb inv
    refine inv _ fun i xs fs' hx hi hie hfl hok r1 r4 r5 k' h hE hp=>?_
    subst hx
    walk_at "ww"
    have:e - i=0:=by lia
    rw [this] at hp
    exact q xs H' k' h (hp ▸ hE)
structure RuleD where
  ws:List (List Int)
  face:Int
  way:Int
noncomputable def RuleV (F:Fz) (v:AV) (d:RuleD):Prop:=okWy d.way d.face∧∃ r mt wl wv mk m an,v=.ref r∧F r=some (.inst 219 [("matcher",.ref mt),("marks",.ref mk),("anchored",.ref an)])∧F mt=some (.inst 323 [("words",.ref wl)])∧F wl=some (.list wv)∧Els (CodesV F) wv d.ws∧F mk=some (.list [.ref m])∧F m=some (.inst 198 [("group",.int 0),("face",.int d.face),("way",.int d.way),("is_lax",.bool false)])∧F an=some (.list [])
theorem RuleV.mono {F G:Fz} {v:AV} {d:RuleD} (k:FLe F G) (h:RuleV F v d):RuleV G v d:=by
  obtain ⟨o,r,mt,wl,wv,mk,m,an,e,h1,h2,h3,h4,h5,h6,h7⟩:=h
  exact ⟨o,r,mt,wl,wv,mk,m,an,e,k _ _ h1,k _ _ h2,k _ _ h3,h4.imp fun _ _=>CodesV.mono k,k _ _ h5,k _ _ h6,k _ _ h7⟩
structure FacAt (B:Nat) (H:Hp) (fc:Nat) (fs:List (List Int)):Prop where
  ob:∃ xs,H[fc]?=some (.list xs)∧Els (CodesV (nw B H)) xs fs
  lo:B≤fc
  ok:∀ f∈fs,okFc f
theorem FacAt.keep {B:Nat} {H H':Hp} {fc:Nat} {fs:List (List Int)} (h:FacAt B H fc fs) (k:Keep [] H H'):FacAt B H' fc fs:=let ⟨xs,h1,h2⟩:=h.ob; ⟨⟨xs,k _ _ (by walk_at "sm") h1,h2.imp fun _ _=>CodesV.mono (nw_keep k)⟩,h.lo,h.ok⟩
theorem c_235 {B n fc gr g mk m:Nat} {F:Fz} {H:Hp} {fs:List (List Int)} {a l:Nat} {face way:Int} (hF:Le F H) (hfc:F fc=none) (hf:FacAt B H fc fs) (hm:F mk=some (.list [.ref m])) (hm2:F m=some (.inst 198 [("group",.int 0),("face",.int face),("way",.int way),("is_lax",.bool false)])) (hg:H[gr]?=some (.list [.ref g])) (hg2:H[g]?=some (.tup [.int a,.int l])) (h1:a≤l) (h2:l≤fs.length) (l1:fs.length≤900000) (hw:okWy way face) {Q:AV→Hp→Prop}
    (q:∀ H',Keep [fc] H H'→FacAt B H' fc (paintS way face (l - a) a fs)→Q .none H'):WC (callF (n+2)) 235 [.ref fc,.ref gr,.ref mk] H Q:=by
  refine run_235 fun ρ r1 r2 r3=>?_
  unfold b_235
  refine ws_seq (ws_forF (xs:=[.ref m]) (by walk_at "sm") (w_var r3 ⟨_,rfl,fun i ρ' H'=>(i=0∧ρ'=ρ∧H'=H)∨(i=1∧Keep [fc] H H'∧FacAt B H' fc (paintS way face (l - a) a fs)),.inl ⟨rfl,rfl,rfl⟩,?_,?_,?_⟩))
  · rintro i ρ' H' (⟨rfl,rfl,rfl⟩ | ⟨rfl,k',_⟩)
    · exact ⟨Nat.zero_le _,hF _ _ hm⟩
    · exact ⟨Nat.le_refl _,(hF.kept (by simp [hfc]) k') _ _ hm⟩
  · rintro i x ρ' H' hx (⟨rfl,rfl,rfl⟩ | ⟨rfl,k',_⟩)
    · cases hx
      have j2:=hF _ _ hm2
      walk_at "ww"
      rw [show decide ((0:Int)<(([AV.ref g]:List AV).length:Nat))=true from rfl]
      walk_at "ww"
      obtain ⟨xs,x1,x2⟩:=hf.ob
      refine c_228 hf.lo x1 x2 h1 h2 l1 hw hf.ok fun xs' H2 k2 i1 i2=>?_
      walk_at "ww"
      exact .inr ⟨rfl,k2,⟨xs',i1,i2⟩,hf.lo,paint_ok hw _ _ _ hf.ok⟩
    · cases hx
  · rintro ρ' H' (⟨h,_⟩ | ⟨_,k',h⟩)
    · cases h
    · walk_at "ww"
      exact q H' k' h
noncomputable def ruleS (d:RuleD) (cs:List Int):Nat→Nat→List (List Int)→List (List Int)
  | 0,_,fs=>fs
  | m+1,i,fs=>match searchS d.ws cs (cs.length+1) i with
    | none=>fs
    | some (a,l)=>ruleS d cs m l (paintS d.way d.face (l - a) a fs)
theorem ruleS_succ {d:RuleD} {cs:List Int} {m i:Nat} {fs:List (List Int)}:ruleS d cs (m+1) i fs=(match searchS d.ws cs (cs.length+1) i with
    | none=>fs
    | some (a,l)=>ruleS d cs m l (paintS d.way d.face (l - a) a fs)):=rfl
theorem rule_len {d:RuleD} {cs:List Int}:∀ (m i:Nat) (fs:List (List Int)),(ruleS d cs m i fs).length=fs.length
  | 0,_,_=>rfl
  | m+1,i,fs=>by
    unfold ruleS
    split
    · rfl
    · rw [rule_len,paint_len]
noncomputable def I242 (B fc cd r:Nat) (H:Hp) (d:RuleD) (cs:List Int) (fs:List (List Int)) (i:Nat) (ρ':Loc) (H':Hp):Prop:=∀ G:Prop,(∀ (x:Nat) (fs':List (List Int)),ρ' "faces" = some (.ref fc)→ρ' "codes" = some (.ref cd)→ρ' "rule" = some (.ref r)→ρ' "at" = some (.int x)→Keep [fc] H H'→FacAt B H' fc fs'→fs'.length=cs.length→ruleS d cs i x fs'=ruleS d cs (cs.length+1) 0 fs→x≤cs.length→cs.length<i+x→G)→G
theorem c_242 {B n fc cd:Nat} {v:AV} {F:Fz} {H:Hp} {fs:List (List Int)} {cs:List Int} {d:RuleD} (hF:Le F H) (hfc:F fc=none) (hf:FacAt B H fc fs) (hd:RuleV F v d) (hc:F cd=some (.list (cs.map .int))) (l1:cs.length≤900000) (l2:fs.length=cs.length) {Q:AV→Hp→Prop}
    (q:∀ H',Keep [fc] H H'→FacAt B H' fc (ruleS d cs (cs.length+1) 0 fs)→Q .none H'):WC (callF (n+3)) 242 [.ref fc,.ref cd,v,.int 0] H Q:=by
  refine run_242 fun ρ r1 r2 r3 r4=>?_
  unfold b_242
  walk_at "ww"
  obtain ⟨hw,r,mt,wl,wv,mk,m,an,rfl,h1,h2,h3,h4,h5,h6,h7⟩:=hd
  have ll:(cs.map AV.int).length=cs.length:=List.length_map ..
  refine ws_while (I242 B fc cd r H d cs fs) (cs.length+1) (by lia)
    (fun _ g=>g 0 fs (by walk_at "lk") (by walk_at "lk") (by walk_at "lk") upL_eq Keep.refl hf l2 rfl (by lia) (by lia)) ?_
  intro i ρ' H' inv
  refine inv _ fun x fs' r1 r2 r3 r4 k' hf l2 hs hx hi=>?_
  have h0:Le F H':=hF.kept (by simp [hfc]) k'
  have j1:=h0 _ _ h1
  have jc:=h0 _ _ hc
  have j2:=h0 _ _ h2
  obtain ⟨j,rfl⟩:∃ j,i=j+1:=⟨i - 1,by lia⟩
  walk_at "ww"
  rw [ll,show decide ((x:Int)≤cs.length)=true by simp; lia]
  walk_at "ww"
  rw [ll]
  rw [ruleS_succ] at hs
  refine c_320 h0 h2 h3 h4 hc l1 (fun e H2 k2=>?_) (fun a l e gr g H2 k2 g1 g2=>?_)
  · walk_at "ww"
    rw [e] at hs
    exact q H2 (Keep.trans k' (k2.mono (by walk_at "sm"))) (hs ▸ hf.keep k2)
  · have in2:=search_in _ _ e
    rw [e] at hs
    have h0':=h0.ext k2
    have j1:=h0' _ _ h1
    walk_at "ww"
    refine c_235 h0' hfc (hf.keep k2) h5 h6 g1 g2 (by lia) (by lia) (by lia) hw fun H3 k3 f3=>?_
    have h3':=h0'.kept (by simp [hfc]) k3
    have nf:gr≠fc:=by
      rintro rfl
      obtain ⟨xs,x1,x2⟩:=(hf.keep k2).ob
      rw [g1] at x1; cases x1
      have:=x2.1
      simp at this
      obtain ⟨y,hy⟩:∃ y,fs'[0]?=some y:=⟨fs'[0],List.getElem?_eq_getElem (by lia)⟩
      obtain ⟨r',e',hr'⟩:=x2.2 0 _ _ rfl hy
      cases e'
      have hr':H2[g]?=some (.list (y.map .int)):=nw_get hr'
      rw [g2] at hr'; cases hr'
    have g1':=k3 _ _ (by simp [nf]) g1
    have g2':=k3 _ _ (by simp; rintro rfl; obtain ⟨xs,x1,x2⟩:=(hf.keep k2).ob; rw [g2] at x1; cases x1) g2
    have j1:=h3' _ _ h1
    have j7:=h3' _ _ h7
    walk_at "ww"
    rw [show decide ((l:Int) > a)=true by simp; lia]
    walk_at "ww"
    refine ws_forF (xs:=[]) (by decide) ?_
    walk_at "ww"
    refine ⟨_,rfl,fun i ρ2 H2=>i=0∧H2=H3∧ρ2=upL (upL ρ' "groups" (.ref gr)) "at" (.int l),⟨rfl,rfl,rfl⟩,?_,?_,?_⟩
    · rintro i ρ2 H2 ⟨rfl,rfl,rfl⟩
      exact ⟨Nat.le_refl _,j7⟩
    · intro i x ρ2 H2 hx _
      cases hx
    · rintro ρ2 H2 ⟨_,rfl,rfl⟩
      walk_at "ww"
      exact ⟨j,by lia,fun _ g=>g l _ (by walk_at "lk") (by walk_at "lk") (by walk_at "lk") (by walk_at "lk") (Keep.trans k' (Keep.trans (k2.mono (by walk_at "sm")) k3)) f3 (by rw [paint_len]; exact l2) hs in2.2.2 (by lia)⟩
theorem ws_forE {c:EX} {d:TX} {b:SX} {ρ:Loc} {H:Hp} {Q:Fl→Loc→Hp→Prop} (h:W c ρ H fun v H1=>∃ k xs,v=.ref k∧H1[k]?=some (.list xs)∧xs.length<1000000∧∃ I:Nat→Loc→Hp→Prop,I 0 ρ H1∧(∀ i ρ H,I i ρ H→i≤xs.length∧H[k]?=some (.list xs))∧
      (∀ i x ρ H,xs[i]?=some x→I i ρ H→WT d x ρ H fun ρ1 H2=>WS b ρ1 H2 fun f ρ2 H3=>match f with
        | .next=>I (i+1) ρ2 H3
        | .ret v=>Q (.ret v) ρ2 H3)∧(∀ ρ H,I xs.length ρ H→Q .next ρ H)):WS (sFor (iList c) d b) ρ H Q:=by
  obtain ⟨v,H1,e,k,xs,rfl,hk,hn,I,i0,i1,i2,i3⟩:=h
  obtain ⟨f,ρ',H',e',q⟩:=forGo_list (I:=I) (n:=xs.length) (k:=k) (Q:=Q) (d:=d) (b:=b) (fun i ρ H hi=>⟨(i1 _ _ _ hi).1,xs,(i1 _ _ _ hi).2,by
    cases hx:xs[i]? with
    | some x=>exact i2 i x ρ H hx hi
    | none=>
      have:i=xs.length:=Nat.le_antisymm (i1 _ _ _ hi).1 (List.getElem?_eq_none_iff.mp hx)
      exact i3 _ _ (this ▸ hi)⟩) fuelN 0 ρ H1 i0 (by unfold fuelN; lia)
  exact ⟨f,ρ',H',oB_e (oRef_e e (atList_e hk rfl)) e',q⟩
noncomputable def TripV (F:Fz) (v:AV) (t:Int×Int×Int):Prop:=∃ r,v=.ref r∧F r=some (.tup [.int t.1,.int t.2.1,.int t.2.2])
theorem Trips.els {H:Hp}:∀ {xs:List AV} {l:List (Int×Int×Int)},Trips H xs l→Els (TripV (fz H)) xs l
  | [],[],_=>.nil
  | .ref r::xs,(a,b,c)::l,h=>Els.cons (Trips.els h.2) ⟨r,rfl,h.1⟩
theorem foldl_take {α β:Type} (f:β→α→β) (b:β) {l:List α} {i:Nat} {x:α} (h:l[i]?=some x):(l.take (i+1)).foldl f b=f ((l.take i).foldl f b) x:=by
  rw [List.take_add_one,h]; simp [List.foldl_append]
noncomputable def spanP (sf cf:Int) (fs:List (List Int)) (t:Int×Int×Int):List (List Int):=paintS 1 (if t.2.2=2 then cf else sf) (t.2.1.toNat - t.1.toNat) t.1.toNat fs
noncomputable def ruleP (cs:List Int) (fs:List (List Int)) (d:RuleD):List (List Int):=ruleS d cs (cs.length+1) 0 fs
theorem scan_many (cs:List Int) (st:Int×Int):(scanS cs st).2.length≤cs.length+2:=by
  have h:=go_in (cs:=cs) (cs.length+1) (s:={ st:=st,at_:=0,bg:=0,sp:=[] }) ⟨Int.le_refl _,Int.le_refl _,by simp,⟨by simp,by simp; lia⟩,by simp⟩
  have h2:=h.2.2.2.1
  unfold scanS
  simp only
  unfold leaveS
  split
  · simp only [List.length_append,List.length_singleton]; lia
  · simp only; lia
noncomputable def facesS (ds:List RuleD) (sf cf:Int) (cs:List Int) (st:Int×Int):List (List Int):=
  ds.foldl (ruleP cs) ((scanS cs st).2.foldl (spanP sf cf) (List.replicate cs.length []))
theorem spans_len {sf cf:Int}:∀ (l:List (Int×Int×Int)) (fs:List (List Int)),(l.foldl (spanP sf cf) fs).length=fs.length
  | [],_=>rfl
  | t::l,fs=>by rw [List.foldl_cons,spans_len,spanP,paint_len]
theorem rules_len {cs:List Int}:∀ (l:List RuleD) (fs:List (List Int)),(l.foldl (ruleP cs) fs).length=fs.length
  | [],_=>rfl
  | t::l,fs=>by rw [List.foldl_cons,rules_len,ruleP,rule_len]
theorem c_247 {n sg rl cd st:Nat} {F:Fz} {H:Hp} {rv:List AV} {ds:List RuleD} {cs:List Int} {sf cf:Int} {p:Int×Int} (hF:Le F H) (hs:SignsF F sg) (hr:F rl=some (.list rv)) (hR:Els (RuleV F) rv ds) (ld:ds.length≤900000) (hc:F cd=some (.list (cs.map .int))) (l1:cs.length≤900000) (hst:H[st]?=some (.tup [.int p.1,.int p.2])) {Q:AV→Hp→Prop}
    (q:∀ r H',Keep [] H H'→H[r]?=none→FacAt H.length H' r (facesS ds sf cf cs p)→Q (.ref r) H'):WC (callF (n+6)) 247 [.ref sg,.ref rl,.ref cd,.ref st,.int sf,.int cf] H Q:=by
  refine run_247 fun ρ r1 r2 r3 r4 r5 r6=>?_
  have hc':=hF _ _ hc
  unfold b_247
  refine ws_seq (ws_assignV (w_mapL (by rfl) (w_var r3 ⟨cd,_,rfl,hc',?_,by simp; lia,fun i ys H'=>Keep [H.length] H H'∧H'[H.length]?=some (.list ys)∧ys.length=i∧Els (CodesV (nw H.length H')) ys (List.replicate i []),⟨Keep.app,get_new1,rfl,.nil⟩,?_,?_,?_⟩)))
  · intro v hv
    obtain ⟨i,_,rfl⟩:=List.mem_map.mp hv
    rfl
  · rintro i ys H' ⟨k',h1,h2,h3⟩
    exact ⟨h2,k' _ _ (by simp; exact (len_ne hc').symm) hc'⟩
  · rintro i v ys ρ' H' hx ⟨k',h1,h2,h3⟩ _ _
    walk_at "ww"
    refine ⟨get_app h1,Keep.trans k' (Keep.trans Keep.app (Keep.set (by walk_at "sm"))),get_set (get_app h1),by simp [h2],?_⟩
    rw [List.replicate_succ']
    exact (faces_set (get_app h1) h3.app).snoc ⟨_,rfl,nw_mk (by have:=lt_get h1; lia) (get_set_ne get_new1 (len_ne h1).symm)⟩
  rintro ys H1 ⟨k1,e1,e2,e3⟩
  refine ⟨rfl,?_⟩
  have hfc:F H.length=none:=hF.len (Nat.le_refl _)
  have nfc:H[H.length]?=none:=get_none (Nat.le_refl _)
  have le:∀ H',Keep [H.length] H H'→Le F H':=fun H' k'=>hF.kept (by simp [hfc]) k'
  have nst:st≠H.length:=(len_ne hst).symm
  have hf:FacAt H.length H1 H.length (List.replicate cs.length []):=⟨⟨ys,e1,by simpa using e3⟩,Nat.le_refl _,fun f hf=>by rw [List.eq_of_mem_replicate hf]; exact .inl (by walk_at "sm")⟩
  generalize H.length=fc at *
  have h1:=le H1 k1
  have hst1:=k1 _ _ (by simp [nst]) hst
  have r1':upL ρ "faces" (.ref fc) "signs" = some (.ref sg):=by walk_at "lk"
  refine ws_seq (ws_forE ?_)
  walk_at "ww"
  refine c_146 (hs.mono h1.fle) (h1 _ _ hc) l1 hst1 fun r st' sp xs H2 k2 nsp i1 i2 i3 i4=>?_
  have hin:=scan_in cs p
  have l3:xs.length≤900002:=by have:=scan_many cs p; have h:=i4.len; change xs.length=(scanS cs p).2.length at h; lia
  walk_at "ww"
  have h2:=h1.ext k2
  have nsf:sp≠fc:=fun e=>by rw [e,e1] at nsp; cases nsp
  have hx:=i4.els
  refine ⟨sp,xs,rfl,i3,by lia,fun i ρ' H'=>∀ G:Prop,(i≤xs.length→ρ' "faces" = some (.ref fc)→ρ' "codes" = some (.ref cd)→ρ' "rules" = some (.ref rl)→ρ' "string_face" = some (.int sf)→ρ' "comment_face" = some (.int cf)→Keep [fc] H2 H'→FacAt fc H' fc (((scanS cs p).2.take i).foldl (spanP sf cf) (List.replicate cs.length []))→G)→G,fun _ g=>g (Nat.zero_le _) (by walk_at "lk") (by walk_at "lk") (by walk_at "lk") (by walk_at "lk") (by walk_at "lk") Keep.refl (hf.keep k2),?_,?_,?_⟩
  · intro i ρ' H' inv
    refine inv _ fun hi _ _ _ _ _ k' _=>?_
    exact ⟨hi,k' _ _ (by simp [nsf]) i3⟩
  · intro i x ρ' H' hxi inv
    refine inv _ fun hi r1 r2 r3 r4 r5 k' hf=>?_
    obtain ⟨t,ht,tr,rfl,htr⟩:=hx.got hxi
    have htr':H'[tr]?=some (.tup [.int t.1,.int t.2.1,.int t.2.2]):=k' _ _ (by simp; exact ne_get htr ((hf.keep Keep.refl).ob.elim fun xs h=>(k2 _ _ (by walk_at "sm") e1)) (by walk_at "sm")) htr
    have hb:=hin t (List.mem_of_getElem? ht)
    have hi2:i<xs.length:=(List.getElem?_eq_some_iff.mp hxi).1
    refine wt_tup htr' (wts_cons (wt_var rfl (wts_cons (wt_var rfl (wts_cons (wt_var rfl (wts_nil ?_)))))))
    obtain ⟨fx,f1,f2⟩:=hf.ob
    have fl:(((scanS cs p).2.take i).foldl (spanP sf cf) (List.replicate cs.length [])).length=cs.length:=by rw [spans_len]; simp
    have ta:((t.1.toNat:Nat):Int)=t.1:=by lia
    have tb:((t.2.1.toNat:Nat):Int)=t.2.1:=by lia
    have go:∀ c:Int,c=(if t.2.2=2 then cf else sf)→∀ (n:Nat) (ρ2:Loc) (R:AV→Hp→Prop),(∀ H3,Keep [fc] H2 H3→FacAt fc H3 fc (((scanS cs p).2.take (i+1)).foldl (spanP sf cf) (List.replicate cs.length []))→R .none H3)→WC (callF (n+1)) 228 [.ref fc,.int t.1,.int t.2.1,.int c,.int 1] H' R:=fun c hc n ρ2 R hR=>by
      have:=c_228 (n:=n) (s:=t.1.toNat) (e:=t.2.1.toNat) (face:=c) (way:=1) hf.lo f1 f2 (by lia) (by lia) (by lia) (.inl rfl) hf.ok (Q:=R) fun xs' H3 k3 g1 g2=>hR H3 (Keep.trans k' k3) (by
        rw [foldl_take _ _ ht,spanP,← hc]
        exact ⟨⟨xs',g1,g2⟩,hf.lo,paint_ok (.inl rfl) _ _ _ hf.ok⟩)
      rw [ta,tb] at this
      exact this
    walk_at "ww"
    refine ite_both (fun c1=>?_) (fun c1=>?_)
    · walk_at "ww"
      refine go cf (by rw [if_pos (by simpa using c1)]) _ ρ _ fun H3 k3 f3=>?_
      walk_at "ww"
      exact fun _ g=>g hi2 (by walk_at "lk") (by walk_at "lk") (by walk_at "lk") (by walk_at "lk") (by walk_at "lk") k3 f3
    · walk_at "ww"
      refine go sf (by rw [if_neg (by simpa using c1)]) _ ρ _ fun H3 k3 f3=>?_
      walk_at "ww"
      exact fun _ g=>g hi2 (by walk_at "lk") (by walk_at "lk") (by walk_at "lk") (by walk_at "lk") (by walk_at "lk") k3 f3
  · intro ρ' H' inv
    refine inv _ fun _ r1 r2 r3 r4 r5 k' hf=>?_
    rw [hx.1,List.take_of_length_le (Nat.le_refl _)] at hf
    have k3:Keep [fc] H H':=Keep.trans k1 (Keep.trans (k2.mono (by walk_at "sm")) k')
    have h3:=le H' k3
    walk_at "ww"
    refine ws_forF (xs:=rv) (by have:=hR.1; lia) ?_
    walk_at "ww"
    refine ⟨rl,rfl,fun i ρ' H'=>∀ G:Prop,(i≤rv.length→ρ' "faces" = some (.ref fc)→ρ' "codes" = some (.ref cd)→Keep [fc] H H'→FacAt fc H' fc ((ds.take i).foldl (ruleP cs) ((scanS cs p).2.foldl (spanP sf cf) (List.replicate cs.length [])))→G)→G,fun _ g=>g (Nat.zero_le _) r1 r2 k3 hf,?_,?_,?_⟩
    · intro i ρ' H' inv
      refine inv _ fun hi _ _ k' _=>?_
      exact ⟨hi,le _ k' _ _ hr⟩
    · intro i x ρ' H' hxi inv
      refine inv _ fun hi r1 r2 k' hf=>?_
      obtain ⟨d,hd,hd2⟩:=hR.got hxi
      have hi2:i<rv.length:=(List.getElem?_eq_some_iff.mp hxi).1
      obtain ⟨rr,rfl⟩:∃ r,x=.ref r:=by obtain ⟨_,r,_,_,_,_,_,_,rfl,_⟩:=hd2; exact ⟨r,rfl⟩
      refine wt_var rfl ?_
      walk_at "ww"
      refine c_242 (le _ k') hfc hf hd2 hc l1 (by rw [rules_len,spans_len]; simp) fun H3 k3 f3=>?_
      walk_at "ww"
      refine fun _ g=>g hi2 (by walk_at "lk") (by walk_at "lk") (Keep.trans k' k3) ?_
      rw [foldl_take _ _ hd]
      exact f3
    · intro ρ' H' inv
      refine inv _ fun _ r1 r2 k' hf=>?_
      rw [hR.1,List.take_of_length_le (Nat.le_refl _)] at hf
      walk_at "ww"
      exact q fc H' (Keep.drop k' nfc) nfc hf
noncomputable def stl (M:List Nat) (H:Hp):Fz:=fun j=>if j∈M then none else H[j]?
theorem stl_in {M:List Nat} {H:Hp} {j:Nat} (h:j∈M):stl M H j=none:=if_pos h
theorem stl_get {M:List Nat} {H:Hp} {j:Nat} {o:AO} (h:stl M H j=some o):j ∉ M∧H[j]?=some o:=by
  unfold stl at h
  split at h
  · cases h
  · exact ⟨‹_›,h⟩
theorem stl_mk {M:List Nat} {H:Hp} {j:Nat} {o:AO} (n:j ∉ M) (h:H[j]?=some o):stl M H j=some o:=by unfold stl; rw [if_neg n]; exact h
theorem stl_le {M:List Nat} {H:Hp}:Le (stl M H) H:=fun j o h=>(stl_get h).2
theorem stl_mono {M M' N:List Nat} {H H':Hp} (k:Keep N H H') (a:∀ j∈N,j∈M∨H[j]?=none) (b:∀ j∈M',j∈M∨H[j]?=none):FLe (stl M H) (stl M' H'):=fun j o h=>by
  obtain ⟨n,e⟩:=stl_get h
  refine stl_mk (fun m=>?_) (k j o (fun m=>?_) e)
  · rcases b j m with h | h
    · exact n h
    · rw [e] at h; cases h
  · rcases a j m with h | h
    · exact n h
    · rw [e] at h; cases h
noncomputable def notT:AO→Bool
  | .tup _=>false
  | _=>true
noncomputable def Dom (M:List Nat) (H:Hp):Prop:=∀ m∈M,∃ o,H[m]?=some o∧notT o=true
theorem Dom.lt {M:List Nat} {H:Hp} (d:Dom M H):∀ m∈M,m<H.length:=fun m h=>let ⟨_,e,_⟩:=d m h; lt_get e
theorem Dom.keep {M N:List Nat} {H H':Hp} (d:Dom M H) (k:Keep N H H') (e:∀ j∈N,∃ o,H'[j]?=some o∧notT o=true):Dom M H':=fun m h=>by
  by_cases q:m∈N
  · exact e m q
  · obtain ⟨o,e1,e2⟩:=d m h
    exact ⟨o,k m _ q e1,e2⟩
theorem Dom.keep1 {M:List Nat} {a:Nat} {H H':Hp} (d:Dom M H) (k:Keep [a] H H') (e1:∃ o,H'[a]?=some o∧notT o=true):Dom M H':=d.keep k fun j h=>by
  rcases List.mem_cons.mp h with rfl | h
  · exact e1
  · cases h
theorem Dom.keep2 {M:List Nat} {a b:Nat} {H H':Hp} (d:Dom M H) (k:Keep [a,b] H H') (e1:∃ o,H'[a]?=some o∧notT o=true) (e2:∃ o,H'[b]?=some o∧notT o=true):Dom M H':=d.keep k fun j h=>by
  rcases List.mem_cons.mp h with rfl | h
  · exact e1
  rcases List.mem_cons.mp h with rfl | h
  · exact e2
  · cases h
theorem Dom.keep0 {M:List Nat} {H H':Hp} (d:Dom M H) (k:Keep [] H H'):Dom M H':=d.keep k fun j h=>by cases h
theorem Dom.cons {M:List Nat} {a:Nat} {o:AO} {H:Hp} (d:Dom M H) (e:H[a]?=some o) (t:notT o=true):Dom (a::M) H:=fun m h=>by
  rcases List.mem_cons.mp h with rfl | h
  · exact ⟨o,e,t⟩
  · exact d m h
theorem Dom.new {M:List Nat} {H:Hp} (d:Dom M H) {j:Nat} (h:H[j]?=none):j ∉ M:=fun m=>by
  obtain ⟨o,e,_⟩:=d j m
  rw [h] at e; cases e
theorem Dom.ge {M:List Nat} {H:Hp} (d:Dom M H) {j:Nat} (h:H.length≤j):j ∉ M:=d.new (get_none h)
theorem Dom.tup {M:List Nat} {H:Hp} (d:Dom M H) {j:Nat} {ts:List AV} (h:H[j]?=some (.tup ts)):j ∉ M:=fun m=>by
  obtain ⟨o,e,t⟩:=d j m
  rw [h] at e; cases e; cases t
theorem Dom.sub {M N:List Nat} {H:Hp} (d:Dom M H) (s:∀ j∈N,j∈M):Dom N H:=fun m h=>d m (s m h)
noncomputable def lawRules:List RuleD:=[⟨[[105,102],[97,98]],3,3⟩,⟨[[97]],4,1⟩]
noncomputable def lockOb (sg rl ss ff:Nat) (n:Int):AO:=.inst 288 [("signs",.ref sg),("rules",.ref rl),("string_face",.int 1),("comment_face",.int 2),("states",.ref ss),("faces",.ref ff),("looked",.int n)]
noncomputable def FaceV (F:Fz) (v:AV) (fs:List (List Int)):Prop:=∃ r xs,v=.ref r∧F r=some (.list xs)∧Els (CodesV F) xs fs
theorem FaceV.mono {F G:Fz} {v:AV} {fs:List (List Int)} (k:FLe F G) (h:FaceV F v fs):FaceV G v fs:=let ⟨r,xs,e,a,b⟩:=h; ⟨r,xs,e,k _ _ a,b.imp fun _ _=>CodesV.mono k⟩
noncomputable def lineF (ls:List (List Int)) (i:Nat) (l:List Int):List (List Int):=facesS lawRules 1 2 l (stAt ls i)
structure LockAt (F:Fz) (H:Hp) (k ss ff:Nat) (ls:List (List Int)) (fv:List AV):Prop where
  ob:∃ sg rl sl n rv sv,H[k]?=some (lockOb sg rl ss ff n)∧H[ss]?=some (.inst 177 [("signs",.ref sg),("states",.ref sl)])∧H[ff]?=some (.list fv)∧SignsF F sg∧F rl=some (.list rv)∧Els (RuleV F) rv lawRules∧F sl=some (.list sv)∧Els (PairV F) sv (sts ls ls.length)
  fl:fv.length=ls.length
  fa:∀ i v l,fv[i]?=some v→ls[i]?=some l→v=.none∨FaceV F v (lineF ls i l)
theorem LockAt.elim {F:Fz} {H:Hp} {k ss ff:Nat} {ls:List (List Int)} {fv:List AV} {G:Prop} (h:LockAt F H k ss ff ls fv) (q:∀ sg rl sl n rv sv,H[k]?=some (lockOb sg rl ss ff n)→H[ss]?=some (.inst 177 [("signs",.ref sg),("states",.ref sl)])→H[ff]?=some (.list fv)→SignsF F sg→F rl=some (.list rv)→Els (RuleV F) rv lawRules→F sl=some (.list sv)→Els (PairV F) sv (sts ls ls.length)→G):G:=by
  obtain ⟨sg,rl,sl,n,rv,sv,h1,h2,h3,h4,h5,h6,h7,h8⟩:=h.ob
  exact q sg rl sl n rv sv h1 h2 h3 h4 h5 h6 h7 h8
theorem LockAt.mono {F G:Fz} {H H':Hp} {k ss ff:Nat} {ls:List (List Int)} {fv:List AV} (h:LockAt F H k ss ff ls fv) (m:FLe F G) (a:∀ o,H[k]?=some o→H'[k]?=some o) (b:∀ o,H[ss]?=some o→H'[ss]?=some o) (c:∀ o,H[ff]?=some o→H'[ff]?=some o):LockAt G H' k ss ff ls fv:=by
  obtain ⟨sg,rl,sl,n,rv,sv,h1,h2,h3,h4,h5,h6,h7,h8⟩:=h.ob
  exact ⟨⟨sg,rl,sl,n,rv,sv,a _ h1,b _ h2,c _ h3,h4.mono m,m _ _ h5,h6.imp fun _ _=>RuleV.mono m,m _ _ h7,h8.imp fun _ _=>PairV.mono m⟩,h.fl,fun i v l e1 e2=>(h.fa i v l e1 e2).imp id (FaceV.mono m)⟩
structure LinesF (F:Fz) (ln:Nat) (ls:List (List Int)):Prop where
  ob:∃ lv,F ln=some (.list lv)∧Els (CodesV F) lv ls
  l1:ls.length≤900000
  l2:∀ l∈ls,l.length≤900000
theorem LinesF.mono {F G:Fz} {ln:Nat} {ls:List (List Int)} (m:FLe F G) (h:LinesF F ln ls):LinesF G ln ls:=let ⟨lv,a,b⟩:=h.ob; ⟨⟨lv,m _ _ a,b.imp fun _ _=>CodesV.mono m⟩,h.l1,h.l2⟩
theorem FacAt.face {M:List Nat} {B:Nat} {H:Hp} {r:Nat} {fs:List (List Int)} (h:FacAt B H r fs) (d:∀ m∈M,m<B):FaceV (stl M H) (.ref r) fs:=by
  obtain ⟨xs,h1,h2⟩:=h.ob
  have nm:∀ j,B≤j→j ∉ M:=fun j hj m=>by have:=d j m; lia
  exact ⟨r,xs,rfl,stl_mk (nm _ h.lo) h1,h2.imp fun v l ⟨j,e,q⟩=>⟨j,e,stl_mk (nm _ (nw_lo q)) (nw_get q)⟩⟩
theorem c_266 {n k ss ff ln i:Nat} {M:List Nat} {H:Hp} {ls:List (List Int)} {fv:List AV} {l:List Int} (hM:Dom M H) (mk:k∈M) (ms:ss∈M) (mf:ff∈M) (hL:LockAt (stl M H) H k ss ff ls fv) (hl:LinesF (stl M H) ln ls) (hi:ls[i]?=some l) {Q:AV→Hp→Prop}
    (q:∀ fv' v H',Keep [k,ff] H H'→Dom M H'→LockAt (stl M H') H' k ss ff ls fv'→fv'[i]?=some v→FaceV (stl M H') v (lineF ls i l)→(∀ j w,j≠i→fv[j]?=some w→fv'[j]?=some w)→Q v H'):WC (callF (n+7)) 266 [.ref k,.ref ln,.int i] H Q:=by
  refine run_266 fun ρ r1 r2 r3=>?_
  refine hL.elim fun sg rl sl m rv sv h1 h2 h3 h4 h5 h6 h7 h8=>?_
  obtain ⟨lv,g1,g2⟩:=hl.ob
  have hil:i<ls.length:=(List.getElem?_eq_some_iff.mp hi).1
  have l1:=hl.l1
  have lf:=hL.fl
  obtain ⟨v,hv⟩:∃ v,fv[i]?=some v:=⟨fv[i]'(by lia),List.getElem?_eq_getElem (by lia)⟩
  have ix:=pyIdx_nat (i:=(i:Int)) (by lia) (by rw [Int.toNat_natCast]; exact hv)
  have hva:=hL.fa i v l hv hi
  unfold b_266
  rcases hva with rfl | hva
  · walk_at "ww"
    have j7:=(stl_get h7).2
    obtain ⟨_,hsv,st,rfl,hst⟩:=h8.get (sts_get (ls:=ls) (n:=ls.length) (i:=i) (by lia))
    obtain ⟨_,hlv,cd,rfl,hcd⟩:=g2.get hi
    have hst':=(stl_get hst).2
    have g1':=(stl_get g1).2
    have ll:=g2.1
    have ls8:=h8.1
    rw [sts_len] at ls8
    have ix2:=pyIdx_nat (xs:=lv) (i:=(i:Int)) (by lia) (by rw [Int.toNat_natCast]; exact hlv)
    refine c_174 (i:=(i:Int)) (by walk_at "hp") (by walk_at "hp") (by lia) (pyIdx_nat (by lia) (by rw [Int.toNat_natCast]; exact hsv)) ?_
    walk_at "ww"
    refine c_247 (F:=stl M H) (stl_le.set (stl_in mk)) h4 h5 h6 (by decide) hcd (hl.l2 _ (List.mem_of_getElem? hi)) (by walk_at "hp") fun r H2 k2 nr hf=>?_
    rw [List.length_set] at hf
    have nkf:k≠ff:=ne_tag h1 h3 rfl
    have hff:=k2 _ _ (by walk_at "sm") (get_set_ne h3 nkf)
    have hk2:=k2 _ _ (by walk_at "sm") (get_set (o:=lockOb sg rl ss ff (m+1)) h1)
    walk_at "ww"
    have hfs:(H2.set ff (.list (fv.set (i:Int).toNat (.ref r))))[ff]?=some (.list (fv.set i (.ref r))):=by rw [Int.toNat_natCast]; exact get_set hff
    refine x_idxL hfs (by simp; lia) (pyIdx_nat (v:=.ref r) (i:=(i:Int)) (by lia) (by rw [Int.toNat_natCast,List.getElem?_set_self (by lia)])) ?_
    walk_at "ww"
    have k3:Keep [k,ff] H (H2.set ff (.list (fv.set (i:Int).toNat (.ref r)))):=Keep.trans (Keep.set (by walk_at "sm")) (Keep.trans (k2.mono (by walk_at "sm")) (Keep.set (by walk_at "sm")))
    have hk2:=k2 _ _ (by walk_at "sm") (get_set (o:=lockOb sg rl ss ff (m+1)) h1)
    have hk3:(H2.set ff (.list (fv.set (i:Int).toNat (.ref r))))[k]?=some (lockOb sg rl ss ff (m+1)):=get_set_ne hk2 nkf.symm
    have d3:=hM.keep2 k3 ⟨_,hk3,rfl⟩ ⟨_,hfs,rfl⟩
    have m3:FLe (stl M H) (stl M (H2.set ff (.list (fv.set (i:Int).toNat (.ref r))))):=stl_mono k3 (by simp [mk,mf]) (fun j h=>.inl h)
    have hfr:FaceV (stl M (H2.set ff (.list (fv.set (i:Int).toNat (.ref r))))) (.ref r) (lineF ls i l):=
      (hf.face (M:=M) hM.lt).mono (stl_mono (Keep.set (M:=[ff]) (by walk_at "sm")) (by simp [mf]) (fun j h=>.inl h))
    have hL3:LockAt (stl M (H2.set ff (.list (fv.set (i:Int).toNat (.ref r))))) (H2.set ff (.list (fv.set (i:Int).toNat (.ref r)))) k ss ff ls (fv.set i (.ref r)):=by
      refine ⟨⟨sg,rl,sl,m+1,rv,sv,hk3,k3 _ _ (nin2 (ne_tag h2 h1 rfl) (ne_tag h2 h3 rfl)) h2,hfs,h4.mono m3,m3 _ _ h5,h6.imp fun _ _=>RuleV.mono m3,m3 _ _ h7,h8.imp fun _ _=>PairV.mono m3⟩,by simp [lf],?_⟩
      intro j w l' e1 e2
      rw [List.getElem?_set] at e1
      split at e1
      · rename_i q; subst q
        rw [if_pos (by lia)] at e1
        cases e1
        rw [hi] at e2; cases e2
        exact .inr hfr
      · exact (hL.fa j w l' e1 e2).imp id (FaceV.mono m3)
    exact q _ _ _ k3 d3 hL3 (List.getElem?_set_self (by lia)) hfr (fun j w n h=>by rw [List.getElem?_set_ne n.symm]; exact h)
  · obtain ⟨r,xs,rfl,y1,y2⟩:=id hva
    walk_at "ww"
    exact q fv _ H Keep.refl hM hL hv hva (fun j w _ h=>h)
theorem stl_sub {M M':List Nat} {H:Hp} (b:∀ j∈M',j∈M∨H[j]?=none):FLe (stl M H) (stl M' H):=stl_mono (N:=[]) Keep.refl (by walk_at "sm") b
noncomputable def allF (ls:List (List Int)):List (List (List Int)):=(List.range ls.length).map fun i=>lineF ls i (ls.getD i [])
theorem allF_get {ls:List (List Int)} {i:Nat} {l:List Int} (h:ls[i]?=some l):(allF ls)[i]?=some (lineF ls i l):=by
  unfold allF
  have hi:i<ls.length:=(List.getElem?_eq_some_iff.mp h).1
  rw [List.getElem?_map,List.getElem?_range hi]
  simp [List.getD_eq_getElem?_getD,h]
theorem c_271 {n k ss ff ln:Nat} {M:List Nat} {H:Hp} {ls:List (List Int)} {fv:List AV} (hM:Dom M H) (mk:k∈M) (ms:ss∈M) (mf:ff∈M) (hL:LockAt (stl M H) H k ss ff ls fv) (hl:LinesF (stl M H) ln ls) {Q:AV→Hp→Prop}
    (q:∀ D ys fv' H',Keep [k,ff] H H'→Dom M H'→LockAt (stl M H') H' k ss ff ls fv'→H[D]?=none→H'[D]?=some (.list ys)→Els (FaceV (stl M H')) ys (allF ls)→Q (.ref D) H'):WC (callF (n+8)) 271 [.ref k,.ref ln,.int 0,.int ls.length] H Q:=by
  refine run_271 fun ρ r1 r2 r3 r4=>?_
  unfold b_271
  have l1:=hl.l1
  have i1:inner scp2 ocs2 ρ "self" = some (.ref k):=by unfold inner; rw [if_pos (by rfl)]; exact r1
  have i2:inner scp2 ocs2 ρ "lines" = some (.ref ln):=by unfold inner; rw [if_pos (by rfl)]; exact r2
  refine ws_seq (ws_ret (w_mapR2 ?_ (w_var r3 (w_var r4 ⟨0,ls.length,rfl,rfl,by lia,by lia,fun x ys H'=>∃ (i:Nat) (fv':List AV),x=i∧i≤ls.length∧Keep [k,ff,H.length] H H'∧Dom (H.length::M) H'∧LockAt (stl (H.length::M) H') H' k ss ff ls fv'∧H'[H.length]?=some (.list ys)∧ys.length=i∧∀ j v,ys[j]?=some v→∃ l,ls[j]?=some l∧FaceV (stl (H.length::M) H') v (lineF ls j l),?_,?_,?_,?_⟩))))
  · show (compOk scp2 ocs2 "line" && scp2.names.all fun y=>!(y.2 == .free) || (ρ y.1).isSome)=true
    rw [show compOk scp2 ocs2 "line" = true from rfl]
    simp [scp2,r1,r2]
  · refine ⟨0,fv,rfl,Nat.zero_le _,Keep.app,?_,?_,get_new1,rfl,fun j v h=>by simp at h⟩
    · exact (hM.keep0 Keep.app).cons get_new1 rfl
    · exact hL.mono (stl_mono (N:=[]) Keep.app (by walk_at "sm") (fun j h=>by
        rcases List.mem_cons.mp h with rfl | h
        · exact .inr (get_none (Nat.le_refl _))
        · exact .inl h)) (fun _ h=>get_app h) (fun _ h=>get_app h) (fun _ h=>get_app h)
  · rintro x ys H' ⟨i,fv',rfl,hi,k',d',hL',hD,hy,_⟩
    rw [hy]; lia
  · rintro x ys ρ' H' h0 hx ⟨i,fv',rfl,hi,k',d',hL',hD,hy,hf⟩ rx ro
    have s1:ρ' "self" = some (.ref k):=by rw [ro _ (by decide)]; exact i1
    have s2:ρ' "lines" = some (.ref ln):=by rw [ro _ (by decide)]; exact i2
    refine hL'.elim fun sg rl sl m rv sv h1 h2 h3 _ _ _ _ _=>?_
    have nD:∀ m∈M,m≠H.length:=fun m h e=>by have:=hM.lt m h; lia
    have hli:ls[i]?=some (ls[i]'(by lia)):=List.getElem?_eq_getElem (by lia)
    have m1:FLe (stl M H) (stl (H.length::M) H'):=stl_mono k' (fun j h=>by
      simp only [List.mem_cons,List.not_mem_nil,or_false] at h
      rcases h with rfl | rfl | rfl
      · exact .inl mk
      · exact .inl mf
      · exact .inr (get_none (Nat.le_refl _))) (fun j h=>by
        rcases List.mem_cons.mp h with rfl | h
        · exact .inr (get_none (Nat.le_refl _))
        · exact .inl h)
    walk_at "ww"
    refine c_266 d' (List.mem_cons_of_mem _ mk) (List.mem_cons_of_mem _ ms) (List.mem_cons_of_mem _ mf) hL' (hl.mono m1) hli fun fv2 v H2 k2 d2 hL2 hv hfv _=>?_
    have hD2:=k2 _ _ (nin2 ((nD _ mk).symm) ((nD _ mf).symm)) hD
    have m2:FLe (stl (H.length::M) H') (stl (H.length::M) (H2.set H.length (.list (ys++[v])))):=stl_mono (Keep.trans (k2.mono (N:=[k,ff,H.length]) (by walk_at "sm")) (Keep.set (by walk_at "sm"))) (fun j h=>by
      simp only [List.mem_cons,List.not_mem_nil,or_false] at h
      rcases h with rfl | rfl | rfl
      · exact .inl (List.mem_cons_of_mem _ mk)
      · exact .inl (List.mem_cons_of_mem _ mf)
      · exact .inl (by walk_at "sm")) (fun j h=>.inl h)
    have m3:FLe (stl (H.length::M) H2) (stl (H.length::M) (H2.set H.length (.list (ys++[v])))):=stl_mono (N:=[H.length]) (Keep.set (by walk_at "sm")) (by walk_at "sm") (fun j h=>.inl h)
    refine ⟨hD2,i+1,fv2,rfl,by lia,Keep.trans k' (Keep.trans (k2.mono (by walk_at "sm")) (Keep.set (by walk_at "sm"))),?_,?_,get_set hD2,by simp [hy],?_⟩
    · exact d2.keep1 (a:=H.length) (Keep.set (by walk_at "sm")) ⟨_,get_set hD2,rfl⟩
    · exact hL2.mono m3 (fun _ h=>get_set_ne h (nD _ mk).symm) (fun _ h=>get_set_ne h (nD _ ms).symm) (fun _ h=>get_set_ne h (nD _ mf).symm)
    · intro j w hw
      by_cases hj:j<ys.length
      · rw [List.getElem?_append_left hj] at hw
        obtain ⟨l,e1,e2⟩:=hf j w hw
        exact ⟨l,e1,e2.mono m2⟩
      · rw [List.getElem?_append_right (by lia)] at hw
        have hjl:j=i:=by
          have:=(List.getElem?_eq_some_iff.mp hw).1
          simp at this; lia
        subst hjl
        rw [hy,Nat.sub_self] at hw
        cases hw
        exact ⟨_,hli,hfv.mono m3⟩
  · rintro x ys H' h0 hx ⟨i,fv',rfl,hi,k',d',hL',hD,hy,hf⟩
    have hi:i=ls.length:=by lia
    subst hi
    have hsub:FLe (stl (H.length::M) H') (stl M H'):=stl_sub fun j h=>.inl (List.mem_cons_of_mem _ h)
    refine q H.length ys fv' H' ?_ (d'.sub fun m h=>List.mem_cons_of_mem _ h) (hL'.mono hsub (fun _ h=>h) (fun _ h=>h) (fun _ h=>h)) (get_none (Nat.le_refl _)) hD ⟨by simp [allF,hy],fun j v F e1 e2=>?_⟩
    · intro j o n h
      refine k' j o ?_ h
      simp at n ⊢
      exact ⟨n.1,n.2,(len_ne h).symm⟩
    · obtain ⟨l,e3,e4⟩:=hf j v e1
      rw [allF_get e3] at e2
      cases e2
      exact e4.mono hsub
theorem c_278 {n k ss ff ln:Nat} {M:List Nat} {H:Hp} {old new:List (List Int)} {fv:List AV} {a om nm:Nat} (hM:Dom M H) (mk:k∈M) (ms:ss∈M) (mf:ff∈M) (hL:LockAt (stl M H) H k ss ff old fv) (hl:LinesF (stl M H) ln new) (hc:Cut old new a om nm) (l0:old.length≤900000) {Q:AV→Hp→Prop}
    (q:∀ ff' fv' H',Keep [k,ss] H H'→H[ff']?=none→Dom (ff'::M) H'→LockAt (stl (ff'::M) H') H' k ss ff' new fv'→(∀ j,j<a→fv'[j]?=fv[j]?)→Q .none H'):WC (callF (n+7)) 278 [.ref k,.ref ln,.int a,.int om,.int nm] H Q:=by
  refine run_278 fun ρ r1 r2 r3 r4 r5=>?_
  refine hL.elim fun sg rl sl m rv sv h1 h2 h3 h4 h5 h6 h7 h8=>?_
  obtain ⟨lv,g1,g2⟩:=hl.ob
  have l1:=hl.l1
  have lf:=hL.fl
  have c1:=hc.lo
  have c2:=hc.ln
  have c3:=hc.len
  unfold b_278
  walk_at "ww"
  refine c_167 stl_le (stl_in ms) h2 h7 h8 h4 g1 g2 l1 l0 hl.l2 hc fun sl' sv' H1 e k1 nsl e1 e2 e3 he hst=>?_
  have nks:k≠ss:=ne_tag h1 h2 rfl
  have nfs:ff≠ss:=ne_tag h3 h2 rfl
  have h1':=k1 _ _ (by simp [nks]) h1
  have h3':=k1 _ _ (by simp [nfs]) h3
  have p1:pick fv (some ((a:Int)+om)) none=fv.drop (a+om):=by rw [pick_from (by lia)]; congr 1
  have p2:pick fv none (some (a:Int))=fv.take a:=by rw [pick_to (by lia)]; rfl
  walk_at "ww"
  rw [p1]
  walk_at "ww"
  rw [p2]
  walk_at "ww"
  rw [Int.toNat_natCast]
  walk_at "ww"
  generalize hfv0:fv.take a++List.replicate nm AV.none++fv.drop (a+om)=fv0
  have lf0:fv0.length=new.length:=by rw [← hfv0]; simp; lia
  refine ws_abs (fun H2=>∃ ff',H1[ff']?=none∧Keep [k] H1 H2∧H2[k]?=some (lockOb sg rl ss ff' m)∧H2[ff']?=some (.list fv0)) ⟨_,?_,by walk_at "kp",get_set (by walk_at "hp"),get_set_ne get_new1 (Ne.symm (len_ne (by walk_at "hp")))⟩ ?_
  · exact get_none (by simp <;> lia)
  rintro H2 ⟨ff',n1,k2,y1,y2⟩
  have nff:H[ff']?=none:=get_none (by
    have a1:=List.getElem?_eq_none_iff.mp nsl
    have a2:=lt_get e2
    have a3:=List.getElem?_eq_none_iff.mp n1
    lia)
  have nkf:k≠ff':=ne_tag y1 y2 rfl
  refine ws_forR2 ?_
  walk_at "ww"
  refine ⟨_,_,rfl,rfl,by lia,fun x ρ' H3=>∃ fv',ρ' "self" = some (.ref k)∧Keep [ff'] H2 H3∧H3[ff']?=some (.list fv')∧fv'.length=new.length∧∀ (j:Nat) v,fv'[j]?=some v→((a+nm:Int)≤j∧(j:Int)<x∧v=.none)∨(¬ ((a+nm:Int)≤j∧(j:Int)<x)∧fv0[j]?=some v),⟨fv0,by walk_at "lk",Keep.refl,y2,lf0,fun j v h=>.inr ⟨by lia,h⟩⟩,?_,?_⟩
  · rintro x ρ' H3 hx0 hx1 ⟨fv',r1,k3,y3,hlen,hin⟩
    have y1':=k3 _ _ (by simp [nkf]) y1
    walk_at "ww"
    refine ⟨_,by walk_at "lk",Keep.trans k3 (Keep.set (by walk_at "sm")),get_set y3,by simp [hlen],fun j v hj=>?_⟩
    rw [List.getElem?_set] at hj
    split at hj
    · rename_i q
      rw [if_pos (by lia)] at hj
      cases hj
      exact .inl ⟨by lia,by lia,rfl⟩
    · rcases hin j v hj with ⟨b1,b2,b3⟩ | ⟨b1,b2⟩
      · exact .inl ⟨b1,by lia,b3⟩
      · exact .inr ⟨by lia,b2⟩
  · rintro x ρ' H3 hx0 hx1 ⟨fv',r1,k3,y3,hlen,hin⟩
    walk_at "ww"
    have y1':=k3 _ _ (by simp [nkf]) y1
    have hK:Keep [k,ss] H H3:=(Keep.trans (k1.mono (N:=[ff',k,ss]) (by walk_at "sm")) (Keep.trans (k2.mono (by walk_at "sm")) (k3.mono (by walk_at "sm")))).drop nff
    have hss:=k3 _ _ (by simp; exact ne_tag (k2 _ _ (by simp [nks.symm]) e1) y2 rfl) (k2 _ _ (by simp [nks.symm]) e1)
    have mono1:FLe (stl M H) (stl (ff'::M) H3):=stl_mono hK (by simp [mk,ms]) (fun j h=>by
      rcases List.mem_cons.mp h with rfl | h
      · exact .inr nff
      · exact .inl h)
    have mono2:FLe (stl (ff'::M) H1) (stl (ff'::M) H3):=stl_mono (Keep.trans (k2.mono (N:=[ff',k]) (by walk_at "sm")) (k3.mono (by walk_at "sm"))) (by simp [mk]) (fun j h=>.inl h)
    have nsM:sl' ∉ ff'::M:=by
      simp only [List.mem_cons,not_or]
      exact ⟨(fun e=>by rw [← e,e2] at n1; cases n1),hM.new nsl⟩
    have hsl:=mono2 _ _ (stl_mk nsM e2)
    have dom:Dom (ff'::M) H3:=(hM.keep2 hK ⟨_,y1',rfl⟩ ⟨_,hss,rfl⟩).cons y3 rfl
    have tups:∀ v p,PairV (fz H1) v p→PairV (stl (ff'::M) H3) v p:=by
      rintro v p ⟨r,rfl,hr⟩
      have hr:H1[r]?=some (.tup [.int p.1,.int p.2]):=hr
      have h2:=k2 r _ (nin1 (ne_tag hr h1' rfl)) hr
      have h3:=k3 r _ (nin1 (ne_tag h2 y2 rfl)) h2
      exact ⟨r,rfl,stl_mk (dom.tup h3) h3⟩
    refine q ff' fv' H3 hK nff dom ⟨⟨sg,rl,sl',m,rv,sv',y1',hss,y3,h4.mono mono1,mono1 _ _ h5,h6.imp fun _ _=>RuleV.mono mono1,hsl,e3.imp tups⟩,hlen,?_⟩ ?_
    · intro j v l hj hl
      rcases hin j v hj with ⟨b1,b2,b3⟩ | ⟨b1,b2⟩
      · exact .inl b3
      · rw [← hfv0,List.append_assoc] at b2
        by_cases ja:j<a
        · rw [List.getElem?_append_left (by simp; lia),List.getElem?_take,if_pos ja] at b2
          have hl2:old[j]?=some l:=by
            have:=congrArg (fun t=>t[j]?) hc.pre
            simp only [List.getElem?_take,if_pos ja] at this
            rw [this]; exact hl
          have:=hL.fa j v l b2 hl2
          rw [lineF,stAt_take hc.pre (by lia)] at this
          exact this.imp id (FaceV.mono mono1)
        · rw [List.getElem?_append_right (by simp; lia)] at b2
          by_cases jb:j<a+nm
          · rw [List.getElem?_append_left (by simp; lia)] at b2
            have:=List.mem_of_getElem? b2
            exact .inl (List.eq_of_mem_replicate this)
          · rw [List.getElem?_append_right (by simp; lia),List.getElem?_drop] at b2
            have jn:j<new.length:=(List.getElem?_eq_some_iff.mp hl).1
            have hje:e≤j:=by lia
            have ⟨_,hs2⟩:=hst j hje jn
            simp only [List.length_take,List.length_replicate] at b2
            have b2:fv[j+om - nm]?=some v:=by rw [← b2]; congr 1; lia
            have hl2:old[j+om - nm]?=some l:=by
              have:=congrArg (fun t=>t[j - (a+nm)]?) hc.suf
              simp only [List.getElem?_drop] at this
              rw [show j+om - nm=a+om+(j - (a+nm)) by lia,this,show a+nm+(j - (a+nm))=j by lia]
              exact hl
            have:=hL.fa _ v l b2 hl2
            rw [lineF,← hs2] at this
            exact this.imp id (FaceV.mono mono1)
    · intro j ja
      have hj:j<fv'.length:=by lia
      rw [List.getElem?_eq_getElem hj]
      rcases hin j _ (List.getElem?_eq_getElem hj) with ⟨b1,b2,b3⟩ | ⟨b1,b2⟩
      · lia
      · rw [← hfv0,List.append_assoc,List.getElem?_append_left (by simp; lia),List.getElem?_take,if_pos ja] at b2
        exact b2.symm
theorem c_259 {n k sg rl ln:Nat} {M:List Nat} {H:Hp} {ls:List (List Int)} {rv:List AV} (hM:Dom M H) (h:H[k]?=some (.inst 288 [])) (hs:SignsF (stl (k::M) H) sg) (hr:stl (k::M) H rl=some (.list rv)) (hR:Els (RuleV (stl (k::M) H)) rv lawRules) (hl:LinesF (stl (k::M) H) ln ls) {Q:AV→Hp→Prop}
    (q:∀ ss ff H',Keep [k] H H'→H[ss]?=none→H[ff]?=none→Dom (ff::ss::k::M) H'→LockAt (stl (ff::ss::k::M) H') H' k ss ff ls (List.replicate ls.length .none)→Q .none H'):WC (callF (n+7)) 259 [.ref k,.ref sg,.ref rl,.int 1,.int 2,.ref ln] H Q:=by
  refine run_259 fun ρ r1 r2 r3 r4 r5 r6=>?_
  have l1:=hl.l1
  obtain ⟨lv,g1,g2⟩:=hl.ob
  have ll:=g2.1
  unfold b_259
  walk_at "ww"
  have k0:∀ o:AO,Keep [k] H (H.set k o):=fun o=>Keep.set (by walk_at "sm")
  refine c_160 (F:=stl (k::M) H) (((((stl_le.set (stl_in (by walk_at "sm"))).set (stl_in (by walk_at "sm"))).set (stl_in (by walk_at "sm"))).set (stl_in (by walk_at "sm"))).app) (stl_le.len (by walk_at "sm")) get_new1 hs g1 g2 l1 hl.l2 fun sl sv H1 k1 e1 n1 e2 e3=>?_
  simp only [List.set_set,List.length_set] at k1 e1 n1
  have hk1:H1[k]?=some _:=k1 _ _ (by simp; exact (len_ne h).symm) (get_app (get_set h))
  have K1:Keep [k] H H1:=(Keep.trans (Keep.set (M:=[H.length,k]) (by walk_at "sm")) (Keep.trans Keep.app (k1.mono (by walk_at "sm")))).drop (get_none (Nat.le_refl _))
  have hg1:=K1 _ _ (by simp; exact fun e=>by have:=(stl_get g1).1; simp [e] at this) (stl_get g1).2
  have nsl:H[sl]?=none:=get_none (by have:=List.getElem?_eq_none_iff.mp n1; simp at this; lia)
  walk_at "ww"
  refine w_abs (fun H2=>Keep [k] H1 H2∧H1.length≤H2.length∧∃ ss,ss=H.length∧H2[k]?=some (.inst 288 [("signs",.ref sg),("rules",.ref rl),("string_face",.int 1),("comment_face",.int 2),("states",.ref ss)])) ⟨Keep.set (by walk_at "sm"),by simp,_,by simp,get_set hk1⟩ ?_
  rintro H2 ⟨k2,n2,ss,hss,y1⟩
  rw [← hss] at e1 k1
  have hg2:=k2 _ _ (by simp; exact fun e=>by have:=(stl_get g1).1; simp [e] at this) hg1
  refine w_mapL (by rfl) (w_var r6 ⟨ln,lv,rfl,hg2,?_,by lia,fun i ys H'=>Keep [H2.length] H2 H'∧H'[H2.length]?=some (.list ys)∧ys=List.replicate i .none,⟨Keep.app,get_new1,rfl⟩,?_,?_,?_⟩)
  · intro v hv
    obtain ⟨i,hi⟩:=List.getElem?_of_mem hv
    obtain ⟨l,_,r,rfl,_⟩:=g2.got hi
    rfl
  · rintro i ys H' ⟨k',h1,rfl⟩
    exact ⟨by simp,k' _ _ (by simp; exact (len_ne hg2).symm) hg2⟩
  · rintro i v ys ρ' H' hx ⟨k',h1,rfl⟩ _ _
    walk_at "ww"
    exact ⟨h1,Keep.trans k' (Keep.set (by walk_at "sm")),get_set h1,by rw [List.replicate_succ']⟩
  rintro ys H3 ⟨k3,y2,rfl⟩
  have y3:=k3 _ _ (by simp; exact (len_ne y1).symm) y1
  walk_at "ww"
  simp only [List.set_set]
  have nss:H[ss]?=none:=get_none (by lia)
  have nff:H[H2.length]?=none:=get_none (by have:=List.getElem?_eq_none_iff.mp nsl; have:=lt_get e2; lia)
  have nkf:k≠H2.length:=(len_ne y1).symm
  have nks:k≠ss:=ne_tag hk1 e1 rfl
  have lsl:=lt_get e2
  have lss:=lt_get e1
  generalize H2.length=ff at *
  have hk3:=get_set (o:=lockOb sg rl ss ff 0) y3
  refine q ss ff (H3.set k (lockOb sg rl ss ff 0)) ?_ nss nff ?_ ?_
  · exact (Keep.trans (K1.mono (N:=[ff,k]) (by walk_at "sm")) (Keep.trans (k2.mono (by walk_at "sm")) (Keep.trans (k3.mono (by walk_at "sm")) (Keep.set (by walk_at "sm"))))).drop nff
  all_goals
    have K:Keep [k] H (H3.set k (lockOb sg rl ss ff 0)):=(Keep.trans (K1.mono (N:=[ff,k]) (by walk_at "sm")) (Keep.trans (k2.mono (by walk_at "sm")) (Keep.trans (k3.mono (by walk_at "sm")) (Keep.set (by walk_at "sm"))))).drop nff
    have K2:Keep [k,ff] H1 (H3.set k (lockOb sg rl ss ff 0)):=Keep.trans (k2.mono (by walk_at "sm")) (Keep.trans (k3.mono (by walk_at "sm")) (Keep.set (by walk_at "sm")))
    have x1:=K2 _ _ (nin2 (nks.symm) (by lia)) e1
    have x2:=get_set_ne (o:=lockOb sg rl ss ff 0) y2 nkf
    rw [ll] at x2
    have dom:Dom (ff::ss::k::M) (H3.set k (lockOb sg rl ss ff 0)):=(((hM.keep1 K ⟨_,hk3,rfl⟩).cons hk3 rfl).cons x1 rfl).cons x2 rfl
  · exact dom
  · have m1:FLe (stl (k::M) H) (stl (ff::ss::k::M) (H3.set k (lockOb sg rl ss ff 0))):=stl_mono K (by walk_at "sm") (fun j h=>by
      rcases List.mem_cons.mp h with rfl | h
      · exact .inr nff
      rcases List.mem_cons.mp h with rfl | h
      · exact .inr nss
      · exact .inl h)
    have nslk:sl≠k:=fun e=>by rw [e,h] at nsl; cases nsl
    refine ⟨⟨sg,rl,sl,0,rv,sv,hk3,x1,x2,hs.mono m1,m1 _ _ hr,hR.imp fun _ _=>RuleV.mono m1,?_,e3.imp ?_⟩,by simp,fun i v l hv _=>.inl (List.eq_of_mem_replicate (List.mem_of_getElem? hv))⟩
    · refine stl_mk ?_ (K2 _ _ (nin2 (nslk) (by lia)) e2)
      simp only [List.mem_cons,not_or]
      exact ⟨by lia,ne_tag e2 e1 rfl,nslk,hM.new nsl⟩
    · rintro v p ⟨r,rfl,hr⟩
      have hr:H1[r]?=some (.tup [.int p.1,.int p.2]):=hr
      have h2:=k2 r _ (nin1 (ne_tag hr hk1 rfl)) hr
      have h3:=k3 r _ (by simp; have:=lt_get hr; lia) h2
      have h4:=get_set_ne (o:=lockOb sg rl ss ff 0) h3 (ne_tag y3 h3 rfl)
      exact ⟨r,rfl,stl_mk (dom.tup h4) h4⟩
noncomputable def splitL:List Int→List (List Int)
  | []=>[[]]
  | c::cs=>if c=10 then []::splitL cs else (match splitL cs with
    | l::ls=>(c::l)::ls
    | []=>[[c]])
theorem split_cons:∀ s:List Int,∃ m B,splitL s=m::B∧B.length=s.count 10
  | []=>⟨[],[],rfl,rfl⟩
  | c::s=>by
    obtain ⟨m,B,h,hB⟩:=split_cons s
    unfold splitL
    by_cases hc:c=10
    · rw [if_pos hc]
      exact ⟨_,_,rfl,by rw [h,hc]; simp [hB]⟩
    · rw [if_neg hc,h]
      exact ⟨_,_,rfl,by rw [List.count_cons_of_ne (by simpa using hc),hB]⟩
theorem split_app:∀ p:List Int,∃ A l,splitL p=A++[l]∧A.length=p.count 10∧∀ s m B,splitL s=m::B→splitL (p++s)=A++(l++m)::B
  | []=>⟨[],[],rfl,rfl,fun s m B h=>h⟩
  | c::p=>by
    obtain ⟨A,l,h1,h2,h3⟩:=split_app p
    by_cases hc:c=10
    · refine ⟨[]::A,l,by unfold splitL; rw [if_pos hc,h1]; rfl,by rw [hc]; simp [h2],fun s m B h=>?_⟩
      rw [List.cons_append]
      conv=>lhs; unfold splitL
      rw [if_pos hc,h3 s m B h]; rfl
    · cases A with
      | nil=>
        refine ⟨[],c::l,by unfold splitL; rw [if_neg hc,h1]; rfl,by rw [List.count_cons_of_ne (by simpa using hc)]; exact h2,fun s m B h=>?_⟩
        rw [List.cons_append]
        conv=>lhs; unfold splitL
        rw [if_neg hc,h3 s m B h]; rfl
      | cons a A=>
        refine ⟨(c::a)::A,l,by unfold splitL; rw [if_neg hc,h1]; rfl,by rw [List.count_cons_of_ne (by simpa using hc)]; exact h2,fun s m B h=>?_⟩
        rw [List.cons_append]
        conv=>lhs; unfold splitL
        rw [if_neg hc,h3 s m B h]; rfl
theorem split_len (s:List Int):(splitL s).length=s.count 10+1:=by
  obtain ⟨m,B,h,hB⟩:=split_cons s; rw [h]; simp [hB]
theorem split_le:∀ (s:List Int),∀ l∈splitL s,l.length≤s.length
  | [],l,h=>by simp [splitL] at h; subst h; simp
  | c::s,l,h=>by
    obtain ⟨m,B,e,_⟩:=split_cons s
    have ih:=split_le s
    unfold splitL at h
    split at h
    · rcases List.mem_cons.mp h with rfl | h
      · simp
      · have:=ih l h; simp; lia
    · rw [e] at h ih
      rcases List.mem_cons.mp h with rfl | h
      · have:=ih m (by walk_at "sm"); simp; lia
      · have:=ih l (by simp [h]); simp; lia
theorem Keep.setNew {H H':Hp} {r:Nat} {o:AO} (k:Keep [] H H') (n:H[r]?=none):Keep [] H (H'.set r o):=fun j o' m h=>get_set_ne (k j o' m h) (fun e=>by rw [e,h] at n; cases n)
theorem nw_set {B:Nat} {H:Hp} {r:Nat} {o:AO} {v:AV} {l:List Int} (h:CodesV (nw B H) v l) (n:v≠.ref r):CodesV (nw B (H.set r o)) v l:=by
  obtain ⟨j,rfl,hj⟩:=h
  exact ⟨j,rfl,nw_mk (nw_lo hj) (get_set_ne (nw_get hj) (fun e=>n (by rw [e])))⟩
theorem c_790 {n cd:Nat} {H:Hp} {cs:List Int} (hc:H[cd]?=some (.list (cs.map .int))) (l1:cs.length≤800000) {Q:AV→Hp→Prop}
    (q:∀ fl xs H',Keep [] H H'→H.length≤fl→H'[fl]?=some (.list xs)→Els (CodesV (nw H.length H')) xs (splitL cs)→Q (.ref fl) H'):WC (callF (n+1)) 790 [.ref cd] H Q:=by
  refine run_790 fun ρ r1=>?_
  unfold b_790
  walk_at "ww"
  refine ws_abs (fun H1=>∃ fl,Keep [] H H1∧H.length≤fl∧H1[fl]?=some (.list ([]++[.ref H.length]))∧H1[H.length]?=some (.list (([]:List Int).map .int))∧upL ρ "found" (AV.ref (List.length (H++[AO.list []])))=upL ρ "found" (.ref fl)) ⟨_,by walk_at "kp",by simp,by exact get_new1,by exact get_app get_new1,rfl⟩ ?_
  rintro H1 ⟨fl,k1,hB,e1,e2,e3⟩
  rw [e3]
  refine ws_forF (xs:=cs.map .int) (by simp; lia) (w_var (by walk_at "lk") ⟨cd,rfl,fun i ρ' H'=>i≤cs.length∧ρ' "found" = some (.ref fl)∧Keep [] H H'∧∃ ys r,H'[fl]?=some (.list (ys++[.ref r]))∧Els (CodesV (nw H.length H')) (ys++[.ref r]) (splitL (cs.take i))∧∀ a,AV.ref a∈ys→a<r,⟨Nat.zero_le _,by walk_at "lk",k1,[],_,e1,Els.one ⟨_,rfl,nw_mk (Nat.le_refl _) e2⟩,by simp⟩,?_,?_,?_⟩)
  · rintro i ρ' H' ⟨hi,_,k',_⟩
    exact ⟨by simpa using hi,k' _ _ (by walk_at "sm") hc⟩
  · rintro i x ρ' H' hx ⟨hi,r1,k',ys,r,h1,h2,h3⟩
    have hi2:i<cs.length:=by simpa using (List.getElem?_eq_some_iff.mp hx).1
    have hci:cs[i]?=some cs[i]:=List.getElem?_eq_getElem hi2
    rw [List.getElem?_map,hci] at hx
    cases hx
    obtain ⟨A,l,a1,a2,a3⟩:=split_app (cs.take i)
    have tk:cs.take (i+1)=cs.take i++[cs[i]]:=by rw [List.take_add_one,hci]; rfl
    have sl:=h2.1
    rw [split_len] at sl
    have ct:(cs.take i).count 10≤i:=by have:=List.count_le_length (a:=(10:Int)) (l:=cs.take i); rw [List.length_take] at this; lia
    have ya:ys.length=A.length:=by simp at sl; lia
    have lr:CodesV (nw H.length H') (.ref r) l:=h2.2 ys.length _ l (by walk_at "sm") (by rw [a1,ya]; simp)
    obtain ⟨_,e0,hr⟩:=id lr
    cases e0
    have hr':=nw_get hr
    have hE:=h2
    rw [a1] at hE
    have nfr:fl≠r:=faces_ne h1 hE (i:=ys.length) (by walk_at "sm") hr'
    have ll:l.length≤i:=by
      have:=split_le (cs.take i) l (by rw [a1]; simp)
      rw [List.length_take] at this; lia
    have lfl:=lt_get h1
    walk_at "ww"
    refine ite_both (fun c1=>?_) (fun c1=>?_)
    · have c1:cs[i]=10:=by simpa using c1
      walk_at "ww"
      have h1':=get_app (t:=[AO.list []]) h1
      have nH:H[fl]?=none:=get_none hB
      refine ⟨by lia,by walk_at "lk",Keep.setNew (Keep.trans k' Keep.app) nH,ys++[.ref r],H'.length,get_set h1',?_,?_⟩
      · rw [tk,c1,a3 [10] [] [[]] rfl,List.append_nil]
        have:Els (CodesV (nw H.length (H'++[AO.list []]))) (ys++[AV.ref r]++[AV.ref H'.length]) (A++[l]++[[]]):=hE.app.snoc ⟨_,rfl,nw_mk (by lia) get_new1⟩
        have:=faces_set (o:=.list (ys++[AV.ref r]++[AV.ref H'.length])) h1' hE.app
        rw [show A++[l,[]]=A++[l]++[[]] by simp]
        exact this.snoc ⟨_,rfl,nw_mk (by lia) (get_set_ne get_new1 (by lia))⟩
      · intro a ha
        rcases List.mem_append.mp ha with ha | ha
        · have:=h3 a ha; have:=lt_get hr'; lia
        · simp at ha; subst ha; exact lt_get hr'
    · have c1:cs[i]≠10:=by simpa using c1
      walk_at "ww"
      have nH:H[r]?=none:=get_none (nw_lo hr)
      refine ⟨by lia,by walk_at "lk",Keep.setNew k' nH,ys,r,get_set_ne h1 nfr.symm,?_,h3⟩
      have hs:splitL [cs[i]]=[[cs[i]]]:=by unfold splitL; rw [if_neg c1]; rfl
      rw [tk,a3 _ _ _ hs]
      have e5:Els (CodesV (nw H.length (H'.set r (.list (l.map AV.int++[AV.int cs[i]]))))) ys A:=by
        have:=hE.take ys.length
        rw [List.take_left' rfl,ya,List.take_left' rfl] at this
        refine ⟨this.1,fun j v m hv hm=>nw_set (this.2 j v m hv hm) (fun e=>?_)⟩
        subst e
        exact Nat.lt_irrefl _ (h3 r (List.mem_of_getElem? hv))
      exact e5.snoc ⟨r,rfl,nw_mk (nw_lo hr) (by rw [get_set hr']; simp)⟩
  · rintro ρ' H' ⟨hi,r1,k',ys,r,h1,h2,h3⟩
    rw [List.length_map,List.take_of_length_le (Nat.le_refl _)] at h2
    walk_at "ww"
    exact q _ _ _ k' hB h1 h2
theorem c_55 {n k:Nat} {a b c d e f:AV} {H:Hp} (h:H[k]?=some (.inst 58 [])) {Q:AV→Hp→Prop} (q:Q .none (H.set k (.inst 58 [("quotes",a),("escape",b),("line_starts",c),("start",d),("end",e),("nests",f)]))):WC (callF (n+1)) 55 [.ref k,a,b,c,d,e,f] H Q:=by
  refine run_55 fun ρ r1 r2 r3 r4 r5 r6 r7=>?_
  unfold b_55
  walk_at "ww"
  simp only [List.set_set]
  exact q
theorem c_195 {n k:Nat} {a b c d:AV} {H:Hp} (h:H[k]?=some (.inst 198 [])) {Q:AV→Hp→Prop} (q:Q .none (H.set k (.inst 198 [("group",a),("face",b),("way",c),("is_lax",d)]))):WC (callF (n+1)) 195 [.ref k,a,b,c,d] H Q:=by
  refine run_195 fun ρ r1 r2 r3 r4 r5=>?_
  unfold b_195
  walk_at "ww"
  simp only [List.set_set]
  exact q
theorem c_216 {n k:Nat} {a b c:AV} {H:Hp} (h:H[k]?=some (.inst 219 [])) {Q:AV→Hp→Prop} (q:Q .none (H.set k (.inst 219 [("matcher",a),("marks",b),("anchored",c)]))):WC (callF (n+1)) 216 [.ref k,a,b,c] H Q:=by
  refine run_216 fun ρ r1 r2 r3 r4=>?_
  unfold b_216
  walk_at "ww"
  simp only [List.set_set]
  exact q
theorem c_313 {n k:Nat} {a:AV} {H:Hp} (h:H[k]?=some (.inst 323 [])) {Q:AV→Hp→Prop} (q:Q .none (H.set k (.inst 323 [("words",a)]))):WC (callF (n+1)) 313 [.ref k,a] H Q:=by
  refine run_313 fun ρ r1 r2=>?_
  unfold b_313
  walk_at "ww"
  exact q
theorem fle_nw {B:Nat} {M:List Nat} {H:Hp} (d:∀ m∈M,m<B):FLe (nw B H) (stl M H):=fun j o e=>stl_mk (fun m=>by have:=d j m; have:=nw_lo e; lia) (nw_get e)
theorem w_listG {l:List EX} {ρ:Loc} {H:Hp} {Q:AV→Hp→Prop} (h:WA l ρ H fun vs H1=>vs.length≤1000000∧∀ r H2,Keep [] H1 H2→H1[r]?=none→H2[r]?=some (.list vs)→Q (.ref r) H2):W (eList l) ρ H Q:=by
  obtain ⟨vs,H1,e,h1,q⟩:=h
  exact w_list ⟨vs,H1,e,h1,q _ _ Keep.app (get_none (Nat.le_refl _)) get_new1⟩
theorem w_newG {cf:CallF} {c f:Nat} {l:List EX} {ρ:Loc} {H:Hp} {Q:AV→Hp→Prop} (h:WA l ρ H fun vs H1=>vs.any isExt=false∧∀ r H2,Keep [] H1 H2→H1[r]?=none→H2[r]?=some (.inst c [])→WC cf f (.ref r::vs) H2 fun v H3=>v=.none∧Q (.ref r) H3):W (eNew cf c f l) ρ H Q:=by
  obtain ⟨vs,H1,e,h1,q⟩:=h
  exact w_new ⟨vs,H1,e,h1,q _ _ Keep.app (get_none (Nat.le_refl _)) get_new1⟩
theorem new_back {H H1:Hp} {r:Nat} (k:Keep [] H H1) (n:H1[r]?=none):H[r]?=none:=by
  cases e:H[r]? with
  | none=>rfl
  | some o=>rw [k r o (by walk_at "sm") e] at n; cases n
theorem nwk {H H1 H':Hp} {r:Nat} {o:AO} (k:Keep [] H H1) (n:H1[r]?=none) (e:H'[r]?=some o):nw H.length H' r=some o:=nw_mk (List.getElem?_eq_none_iff.mp (new_back k n)) e
theorem w_rule {n:Nat} {c:EX} {face way:Int} {ρ:Loc} {H:Hp} {ws:List (List Int)} {Q:AV→Hp→Prop} (hw:okWy way face) (hc:∀ (R:AV→Hp→Prop),(∀ wl wv H1,Keep [] H H1→nw H.length H1 wl=some (.list wv)→Els (CodesV (nw H.length H1)) wv ws→R (.ref wl) H1)→W c ρ H R)
    (q:∀ r H1,Keep [] H H1→RuleV (nw H.length H1) (.ref r) ⟨ws,face,way⟩→Q (.ref r) H1):W (eNew (callF (n+1)) 219 216 [(eNew (callF (n+1)) 323 313 [c]),(eList [(eNew (callF (n+1)) 198 195 [(eInt 0),(eInt face),(eInt way),(eBool false)])]),(eList [])]) ρ H Q:=by
  refine w_newG (wa_cons (w_newG (wa_cons (hc _ fun wl wv H1 k1 e1 E1=>wa_nil ⟨rfl,fun mt H2 k2 n2 e2=>c_313 e2 ⟨rfl,?_⟩⟩))))
  have n2':=new_back k1 n2
  have k2':Keep [] H (H2.set mt (.inst 323 [("words",.ref wl)])):=Keep.setNew (Keep.trans k1 k2) n2'
  have x1:=nw_get e1
  have f1:(H2.set mt (.inst 323 [("words",.ref wl)]))[wl]?=some (.list wv):=get_set_ne (k2 _ _ (by walk_at "sm") x1) (fun e=>by rw [e,x1] at n2; cases n2)
  have f2:Els (CodesV (nw H.length (H2.set mt (.inst 323 [("words",.ref wl)])))) wv ws:=E1.imp fun v l h=>nw_set (h.mono (nw_keep k2)) (fun e=>by
    obtain ⟨j,rfl,hj⟩:=h
    cases e
    rw [nw_get hj] at n2; cases n2)
  have f3:=get_set (o:=.inst 323 [("words",.ref wl)]) e2
  generalize H2.set mt (.inst 323 [("words",.ref wl)])=H3 at *
  refine wa_cons (w_listG (wa_cons (w_newG (wa_cons (w_int (wa_cons (w_int (wa_cons (w_int (wa_cons (w_bool (wa_nil ⟨rfl,fun m H4 k4 n4 e4=>c_195 e4 ⟨rfl,?_⟩⟩))))))))))))
  have n4':=new_back k2' n4
  have k4':Keep [] H3 (H4.set m (.inst 198 [("group",.int 0),("face",.int face),("way",.int way),("is_lax",.bool false)])):=Keep.setNew k4 n4
  have f4:=get_set (o:=.inst 198 [("group",.int 0),("face",.int face),("way",.int way),("is_lax",.bool false)]) e4
  generalize H4.set m (.inst 198 [("group",.int 0),("face",.int face),("way",.int way),("is_lax",.bool false)])=H5 at *
  refine wa_nil ⟨by simp,fun mk H6 k6 n6 e6=>?_⟩
  refine wa_cons (w_listG (wa_nil ⟨by simp,fun an H7 k7 n7 e7=>wa_nil ⟨rfl,fun r H8 k8 n8 e8=>c_216 e8 ⟨rfl,?_⟩⟩⟩))
  have K37:Keep [] H3 H7:=Keep.trans k4' (Keep.trans k6 k7)
  have K57:Keep [] H5 H7:=Keep.trans k6 k7
  have K7:Keep [] H H7:=Keep.trans k2' K37
  have K8:Keep [] H7 (H8.set r (.inst 219 [("matcher",.ref mt),("marks",.ref mk),("anchored",.ref an)])):=Keep.setNew k8 n8
  have f8:=get_set (o:=.inst 219 [("matcher",.ref mt),("marks",.ref mk),("anchored",.ref an)]) e8
  generalize H8.set r (.inst 219 [("matcher",.ref mt),("marks",.ref mk),("anchored",.ref an)])=H9 at *
  have K9:Keep [] H H9:=Keep.trans K7 K8
  have K39:=Keep.trans K37 K8
  refine q r H9 K9 ⟨hw,r,mt,wl,wv,mk,m,an,rfl,nwk K7 n8 f8,?_,?_,?_,?_,?_,?_⟩
  · exact nw_mk (List.getElem?_eq_none_iff.mp n2') (K39 _ _ (by walk_at "sm") f3)
  · exact nw_mk (nw_lo e1) (K39 _ _ (by walk_at "sm") f1)
  · exact f2.imp fun v l h=>h.mono (nw_keep K39)
  · exact nwk (Keep.trans k2' k4') n6 (K8 _ _ (by walk_at "sm") (k7 _ _ (by walk_at "sm") e6))
  · exact nw_mk (List.getElem?_eq_none_iff.mp n4') (K8 _ _ (by walk_at "sm") (K57 _ _ (by walk_at "sm") f4))
  · exact nwk (Keep.trans (Keep.trans k2' k4') k6) n7 (K8 _ _ (by walk_at "sm") e7)
theorem keep_len {H H':Hp} (k:Keep [] H H'):H.length≤H'.length:=by
  cases h:H.length with
  | zero=>lia
  | succ m=>
    have:H[m]?=some (H[m]'(by lia)):=List.getElem?_eq_getElem (by lia)
    have:=lt_get (k m _ (by walk_at "sm") this)
    lia
theorem nw_down {B C:Nat} {H:Hp} (h:C≤B):FLe (nw B H) (nw C H):=fun j o e=>nw_mk (by have:=nw_lo e; lia) (nw_get e)
theorem FLe.trans {F G K:Fz} (a:FLe F G) (b:FLe G K):FLe F K:=fun j o e=>b j o (a j o e)
theorem nw_stl {B:Nat} {M:List Nat} {H:Hp} {o:AO} (d:∀ m∈M,m<B):FLe (nw B H) (stl (H.length::M) (H++[o])):=fun j o' e=>by
  refine stl_mk ?_ (get_app (nw_get e))
  simp only [List.mem_cons,not_or]
  exact ⟨by have:=lt_get (nw_get e); lia,fun m=>by have:=d j m; have:=nw_lo e; lia⟩
theorem lines_of {B:Nat} {F:Fz} {H:Hp} {fl:Nat} {xs:List AV} {cs:List Int} (h:H[fl]?=some (.list xs)) (b:B≤fl) (E:Els (CodesV (nw B H)) xs (splitL cs)) (l1:cs.length≤800000) (k:FLe (nw B H) F):LinesF F fl (splitL cs):=
  ⟨⟨xs,k _ _ (nw_mk b h),E.imp fun _ _ h=>h.mono k⟩,by rw [split_len]; have:=List.count_le_length (a:=(10:Int)) (l:=cs); lia,fun l hl=>by have:=split_le cs l hl; lia⟩
theorem c_797 {n cd:Nat} {M:List Nat} {H:Hp} {cs:List Int} (hM:Dom M H) (hc:H[cd]?=some (.list (cs.map .int))) (l1:cs.length≤800000) {Q:AV→Hp→Prop}
    (q:∀ k ss ff H',Keep [] H H'→H[k]?=none→H[ss]?=none→H[ff]?=none→Dom (ff::ss::k::M) H'→LockAt (stl (ff::ss::k::M) H') H' k ss ff (splitL cs) (List.replicate (splitL cs).length .none)→Q (.ref k) H'):WC (callF (n+8)) 797 [.ref cd] H Q:=by
  refine run_797 fun ρ r1=>?_
  unfold b_797
  refine ws_seq (ws_assign (w_newG (wa_cons (w_listG (wa_cons (w_int (wa_nil ⟨by simp,fun qu H1 k1 n1 e1=>?_⟩)))))))
  refine wa_cons (w_int (wa_cons (w_listG (wa_cons (w_listG (wa_cons (w_int (wa_nil ⟨by simp,fun la H2 k2 n2 e2=>wa_nil ⟨by simp,fun lsr H3 k3 n3 e3=>?_⟩⟩))))))))
  refine wa_cons (w_listG (wa_cons (w_int (wa_cons (w_int (wa_nil ⟨by simp,fun st H4 k4 n4 e4=>?_⟩))))))
  refine wa_cons (w_listG (wa_cons (w_int (wa_cons (w_int (wa_nil ⟨by simp,fun en H5 k5 n5 e5=>?_⟩))))))
  refine wa_cons (w_bool (wa_nil ⟨rfl,fun sg H6 k6 n6 e6=>c_55 e6 ⟨rfl,?_⟩⟩))
  have K5:Keep [] H H5:=Keep.trans k1 (Keep.trans k2 (Keep.trans k3 (Keep.trans k4 k5)))
  have f6:=get_set (o:=.inst 58 [("quotes",.ref qu),("escape",.int 92),("line_starts",.ref lsr),("start",.ref st),("end",.ref en),("nests",.bool true)]) e6
  have k6':Keep [] H5 (H6.set sg (.inst 58 [("quotes",.ref qu),("escape",.int 92),("line_starts",.ref lsr),("start",.ref st),("end",.ref en),("nests",.bool true)])):=Keep.setNew k6 n6
  generalize H6.set sg (.inst 58 [("quotes",.ref qu),("escape",.int 92),("line_starts",.ref lsr),("start",.ref st),("end",.ref en),("nests",.bool true)])=H7 at *
  have hsg:SignsF (nw H.length H7) sg:=by
    refine ⟨qu,lsr,st,en,la,nwk K5 n6 f6,?_,?_,?_,?_,?_⟩
    · exact nwk Keep.refl n1 (Keep.trans k2 (Keep.trans k3 (Keep.trans k4 (Keep.trans k5 k6'))) _ _ (by walk_at "sm") e1)
    · exact nwk (Keep.trans k1 k2) n3 (Keep.trans k4 (Keep.trans k5 k6') _ _ (by walk_at "sm") e3)
    · exact nwk k1 n2 (Keep.trans k3 (Keep.trans k4 (Keep.trans k5 k6')) _ _ (by walk_at "sm") e2)
    · exact nwk (Keep.trans k1 (Keep.trans k2 k3)) n4 (Keep.trans k5 k6' _ _ (by walk_at "sm") e4)
    · exact nwk (Keep.trans k1 (Keep.trans k2 (Keep.trans k3 k4))) n5 (k6' _ _ (by walk_at "sm") e5)
  have K7:Keep [] H H7:=Keep.trans K5 k6'
  clear f6 k6' K5 e1 e2 e3 e4 e5 e6 n1 n2 n3 n4 n5 n6 k1 k2 k3 k4 k5 k6
  refine wt_var rfl (ws_seq (ws_assign (w_listG (wa_cons (w_rule (ws:=[[105,102],[97,98]]) (.inr ⟨rfl,rfl⟩) (fun R hR=>?_) fun r1 H8 k8 R1=>wa_cons (w_rule (ws:=[[97]]) (.inl rfl) (fun R hR=>?_) fun r2 H9 k9 R2=>wa_nil ⟨by simp,fun rl H10 k10 n10 e10=>?_⟩))))))
  · refine w_listG (wa_cons (w_listG (wa_cons (w_int (wa_cons (w_int (wa_nil ⟨by simp,fun a H8 k8 n8 e8=>?_⟩)))))))
    refine wa_cons (w_listG (wa_cons (w_int (wa_cons (w_int (wa_nil ⟨by simp,fun b H9 k9 n9 e9=>wa_nil ⟨by simp,fun wl H10 k10 n10 e10=>?_⟩⟩))))))
    exact hR wl _ H10 (Keep.trans k8 (Keep.trans k9 k10)) (nwk (Keep.trans k8 k9) n10 e10) (Els.cons (Els.one ⟨b,rfl,nwk k8 n9 (k10 _ _ (by walk_at "sm") e9)⟩) ⟨a,rfl,nwk Keep.refl n8 (k10 _ _ (by walk_at "sm") (k9 _ _ (by walk_at "sm") e8))⟩)
  · refine w_listG (wa_cons (w_listG (wa_cons (w_int (wa_nil ⟨by simp,fun a H9 k9 n9 e9=>wa_nil ⟨by simp,fun wl H10 k10 n10 e10=>?_⟩⟩)))))
    exact hR wl _ H10 (Keep.trans k9 k10) (nwk k9 n10 e10) (Els.one ⟨a,rfl,nwk Keep.refl n9 (k10 _ _ (by walk_at "sm") e9)⟩)
  have K10:Keep [] H H10:=Keep.trans K7 (Keep.trans k8 (Keep.trans k9 k10))
  have hc':=K10 _ _ (by walk_at "sm") hc
  refine wt_var rfl ?_
  walk_at "ww"
  refine c_790 hc' l1 fun fl xs H11 k11 n11 e11 E11=>?_
  walk_at "ww"
  have lM:=hM.lt
  have q1:H.length≤H7.length:=keep_len K7
  have q2:H7.length≤H8.length:=keep_len k8
  have q3:H.length≤H10.length:=keep_len K10
  have base:FLe (nw H.length H11) (stl (H11.length::M) (H11++[.inst 288 []])):=nw_stl lM
  have K11:Keep [] H H11:=Keep.trans K10 k11
  have m7:FLe (nw H.length H7) (nw H.length H11):=nw_keep (Keep.trans k8 (Keep.trans k9 (Keep.trans k10 k11)))
  have hrl:stl (H11.length::M) (H11++[.inst 288 []]) rl=some (.list [.ref r1,.ref r2]):=base _ _ (nwk (Keep.trans K7 (Keep.trans k8 k9)) n10 (k11 _ _ (by walk_at "sm") e10))
  have hRs:Els (RuleV (stl (H11.length::M) (H11++[.inst 288 []]))) [.ref r1,.ref r2] lawRules:=by
    refine Els.cons (Els.one ?_) ?_
    · exact R2.mono (((nw_down (by lia)).trans (nw_keep (Keep.trans k10 k11))).trans base)
    · exact R1.mono (((nw_down q1).trans (nw_keep (Keep.trans k9 (Keep.trans k10 k11)))).trans base)
  refine c_259 (M:=M) ((hM.keep0 K11).keep0 Keep.app) get_new1 (hsg.mono (m7.trans base)) hrl hRs (lines_of e11 n11 E11 l1 ((nw_down q3).trans base)) fun ss ff H12 k12 nss nff dom hL=>?_
  walk_at "ww"
  have nk:H[H11.length]?=none:=get_none (keep_len K11)
  exact q _ ss ff H12 ((Keep.trans (K11.mono (N:=[H11.length]) (by walk_at "sm")) (Keep.trans Keep.app k12)).drop nk) nk (new_back K11 (get_cut nss)) (new_back K11 (get_cut nff)) dom hL
noncomputable def textOf (C:List Int) (gs ge:Nat):List Int:=C.take gs++C.drop ge
theorem text_len {C:List Int} {gs ge:Nat} (h1:gs≤ge) (h2:ge≤C.length):(textOf C gs ge).length+ge=C.length+gs:=by unfold textOf; rw [List.length_append,List.length_take,List.length_drop,Nat.min_eq_left (Nat.le_trans h1 h2)]; lia
noncomputable def gapOb (cl:Nat) (gs ge:Int):AO:=.inst 414 [("room",.int 8),("cells",.ref cl),("gap_start",.int gs),("gap_end",.int ge)]
structure GapAt (H:Hp) (gp cl:Nat) (C:List Int) (gs ge:Nat):Prop where
  ob:H[gp]?=some (gapOb cl gs ge)
  ce:H[cl]?=some (.list (C.map .int))
  h1:gs≤ge
  h2:ge≤C.length
  h3:C.length≤400000
theorem GapAt.ne {H:Hp} {gp cl:Nat} {C:List Int} {gs ge:Nat} (h:GapAt H gp cl C gs ge):gp≠cl:=ne_tag h.ob h.ce rfl
theorem GapAt.keep {M:List Nat} {H H':Hp} {gp cl:Nat} {C:List Int} {gs ge:Nat} (h:GapAt H gp cl C gs ge) (k:Keep M H H') (n1:gp ∉ M) (n2:cl ∉ M):GapAt H' gp cl C gs ge:=⟨k _ _ n1 h.ob,k _ _ n2 h.ce,h.h1,h.h2,h.h3⟩
theorem GapAt.three {H:Hp} {gp cl:Nat} {C:List Int} {gs ge:Nat} {P:Prop} (h:GapAt H gp cl C gs ge) (r:∀ X G Y,C=X++(G++Y)→gs=X.length→ge=X.length+G.length→textOf C gs ge=X++Y→X.length+G.length+Y.length≤400000→P):P:=by
  have l1:=h.h1
  have l2:=h.h2
  have l3:=h.h3
  refine r (C.take gs) ((C.drop gs).take (ge - gs)) (C.drop ge) ?_ ?_ ?_ rfl ?_
  · rw [show C.drop ge=(C.drop gs).drop (ge - gs) by rw [List.drop_drop,Nat.add_sub_cancel' l1],List.take_append_drop,List.take_append_drop]
  · rw [List.length_take,Nat.min_eq_left (Nat.le_trans l1 l2)]
  · rw [List.length_take,List.length_take,List.length_drop,Nat.min_eq_left (Nat.le_trans l1 l2),Nat.min_eq_left (Nat.sub_le_sub_right l2 gs),Nat.add_sub_cancel' l1]
  · rw [List.length_take,List.length_take,List.length_drop,List.length_drop,Nat.min_eq_left (Nat.le_trans l1 l2),Nat.min_eq_left (Nat.sub_le_sub_right l2 gs),Nat.add_sub_cancel' l1,Nat.add_sub_cancel' l2]; exact l3
theorem text_three {X G Y:List Int}:textOf (X++(G++Y)) X.length (X.length+G.length)=X++Y:=by
  unfold textOf
  rw [List.take_left' rfl,List.drop_length_add_append,List.drop_left' rfl]
theorem gap_of {H:Hp} {gp cl:Nat} {X G Y:List Int} {a b:Int} (o:H[gp]?=some (gapOb cl a b)) (c:H[cl]?=some (.list ((X++(G++Y)).map .int))) (ha:a=X.length) (hb:b=(X.length+G.length:Nat)) (l:X.length+G.length+Y.length≤400000):GapAt H gp cl (X++(G++Y)) X.length (X.length+G.length):=by
  subst ha hb
  have e:(X++(G++Y)).length=X.length+G.length+Y.length:=by rw [List.length_append,List.length_append,Nat.add_assoc]
  exact ⟨o,c,Nat.le_add_right _ _,e ▸ Nat.le_add_right _ _,e ▸ l⟩
theorem splice_int {C X:List Int} {a b:Int} {i j:Nat} (ha:a=i) (hb:b=j) (h1:i≤j) (h2:j≤C.length):splice (C.map .int) (some a) (some b) (X.map .int)=(C.take i++(X++C.drop j)).map .int:=by
  subst ha hb
  unfold splice kms_lo kms_hi
  simp only [Int.not_lt.mpr (Int.natCast_nonneg i),Int.not_lt.mpr (Int.natCast_nonneg j),if_false,List.length_map,Int.toNat_natCast]
  rw [Nat.min_eq_left (Nat.le_trans h1 h2),Nat.min_eq_left h2,Nat.max_eq_right h1]
  simp [List.map_take,List.map_drop]
theorem pick_nat {C:List Int} {a b:Int} {i j:Nat} (ha:a=i) (hb:b=j):pick (C.map .int) (some a) (some b)=((C.take j).drop i).map .int:=by subst ha hb; rw [pick_mid (Int.natCast_nonneg _) (Int.natCast_nonneg _),map_cut]; rfl
theorem pick_int {C:List Int} {a b:Int} (h0:0≤a) (h1:0≤b):pick (C.map .int) (some a) (some b)=((C.take b.toNat).drop a.toNat).map .int:=by rw [pick_mid h0 h1,map_cut]
theorem c_348 {n gp cl gs ge:Nat} {C:List Int} {H:Hp} (h:GapAt H gp cl C gs ge) {Q:AV→Hp→Prop} (q:Q (.int (textOf C gs ge).length) H):WC (callF (n+1)) 348 [.ref gp] H Q:=by
  refine run_348 fun ρ r1=>?_
  have h1:=h.ob
  have h2:=h.ce
  have l:(C.map AV.int).length≤1000000:=by rw [List.length_map]; exact Nat.le_trans h.h3 (by decide)
  have e:(((C.map AV.int).length:Nat):Int) - ge+gs=(textOf C gs ge).length:=by
    have:=text_len h.h1 h.h2
    rw [List.length_map]; clear h1 h2 l h; lia
  unfold b_348
  walk_at "ww"
  rw [e]
  exact q
theorem cut_low {X Y:List Int} {s e:Nat} (h:e≤X.length):((X++Y).take e).drop s=(X.take e).drop s:=by rw [List.take_append_of_le_length h]
theorem cut_high {X Y:List Int} {s e:Nat}:((X++Y).take (X.length+e)).drop (X.length+s)=(Y.take e).drop s:=by rw [List.take_length_add_append,List.drop_length_add_append]
theorem cut_mid {X Y:List Int} {s e:Nat} (h:s≤X.length):((X++Y).take (X.length+e)).drop s=X.drop s++Y.take e:=by rw [List.take_length_add_append,List.drop_append_of_le_length h]
theorem c_362 {n gp cl gs ge s e:Nat} {C:List Int} {H:Hp} (h:GapAt H gp cl C gs ge) (hs:s≤e) (he:e≤(textOf C gs ge).length) {Q:AV→Hp→Prop} (q:∀ r H',Keep [] H H'→H[r]?=none→H'[r]?=some (.list ((((textOf C gs ge).take e).drop s).map .int))→Q (.ref r) H'):WC (callF (n+1)) 362 [.ref gp,.int s,.int e] H Q:=by
  refine h.three fun X G Y eC eX eG eT l=>?_
  rw [eT] at he q
  have h1:=h.ob
  have h2:=h.ce
  have hl:(C.map AV.int).length≤1000000:=by rw [List.length_map]; exact Nat.le_trans h.h3 (by decide)
  clear h eT
  subst eC eX eG
  rw [List.length_append] at he
  refine run_362 fun ρ r1 r2 r3=>?_
  unfold b_362
  walk_at "ww"
  refine ite_both (fun c1=>?_) (fun c1=>?_)
  · have c1:e≤X.length:=by simpa using c1
    walk_at "ww"
    refine q _ _ Keep.app (get_none (Nat.le_refl _)) ?_
    rw [get_new1,pick_nat rfl rfl,cut_low c1,cut_low c1]
  · have c1:X.length<e:=by simpa using c1
    obtain ⟨e',rfl⟩:∃ e',e=X.length+e':=⟨e - X.length,(Nat.add_sub_cancel' (Nat.le_of_lt c1)).symm⟩
    walk_at "ww"
    refine ite_both (fun c2=>?_) (fun c2=>?_)
    · have c2:X.length≤s:=by simpa using c2
      obtain ⟨s',rfl⟩:∃ s',s=X.length+s':=⟨s - X.length,(Nat.add_sub_cancel' c2).symm⟩
      walk_at "ww"
      refine q _ _ Keep.app (get_none (Nat.le_refl _)) ?_
      rw [get_new1,pick_nat (i:=X.length+(G.length+s')) (j:=X.length+(G.length+e')) (by clear h1 h2 hl hs he c1 c2; lia) (by clear h1 h2 hl hs he c1 c2; lia),cut_high,cut_high,cut_high]
    · have c2:s<X.length:=by simpa using c2
      have p1:pick ((X++(G++Y)).map AV.int) (some (s:Int)) (some (X.length:Int))=(X.drop s).map .int:=by rw [pick_nat rfl rfl,List.take_left' rfl]
      have p2:pick ((X++(G++Y)).map AV.int) (some ((X.length+G.length:Nat):Int)) (some (((X.length+e':Nat):Int)+(((X.length+G.length:Nat):Int) - X.length)))=(Y.take e').map .int:=by
        rw [pick_nat (i:=X.length+(G.length+0)) (j:=X.length+(G.length+e')) (show ((X.length+G.length:Nat):Int)=((X.length+(G.length+0):Nat):Int) from rfl) (by clear h1 h2 hl hs he c1 c2 p1; lia),cut_high,cut_high]; rfl
      have lc:((X.drop s).map AV.int).length+((Y.take e').map AV.int).length≤1000000:=by
        rw [List.length_map,List.length_map,List.length_drop,List.length_take]
        exact Nat.le_trans (Nat.add_le_add (Nat.sub_le _ _) (Nat.min_le_right _ _)) (by clear h1 h2 hl hs he c1 c2 p1 p2; lia)
      walk_at "ww"
      rw [p1]
      walk_at "ww"
      rw [p2]
      walk_at "ww"
      refine q _ _ (by walk_at "kp") (get_none (by rw [List.length_append,List.length_append]; exact Nat.le_trans (Nat.le_add_right _ _) (Nat.le_add_right _ _))) ?_
      rw [get_new1,← List.map_append,cut_mid (Nat.le_of_lt c2)]
theorem gap_left {X1 X2 G Y:List Int}:((X1++X2)++(G++Y)).take (X1.length+G.length)++(X2++((X1++X2)++(G++Y)).drop ((X1++X2).length+G.length))=X1++((X2++G).take G.length++(X2++Y)):=by
  rw [List.drop_length_add_append,List.drop_left' rfl,List.append_assoc X1 X2,List.take_length_add_append,← List.append_assoc X2 G Y,List.take_append_of_le_length (by rw [List.length_append]; exact Nat.le_add_left _ _),List.append_assoc X1]
theorem gap_right {X G Y1 Y2:List Int}:(X++(G++(Y1++Y2))).take X.length++(Y1++(X++(G++(Y1++Y2))).drop (X.length+Y1.length))=(X++Y1)++((G++Y1).drop Y1.length++Y2):=by
  rw [List.take_left' rfl,List.drop_length_add_append,← List.append_assoc G Y1 Y2,List.drop_append_of_le_length (by rw [List.length_append]; exact Nat.le_add_left _ _),List.append_assoc X]
theorem three_le {X G Y:List Int}:X.length+G.length≤(X++(G++Y)).length:=by rw [List.length_append,List.length_append,← Nat.add_assoc]; exact Nat.le_add_right _ _
theorem split_at {X:List Int} {p:Nat} (h:p≤X.length):∃ X1 X2,X=X1++X2∧p=X1.length:=⟨X.take p,X.drop p,(List.take_append_drop p X).symm,by rw [List.length_take,Nat.min_eq_left h]⟩
theorem len_le {C:List Int} {n:Nat} (h:C.length≤n):(C.map AV.int).length≤n:=by rw [List.length_map]; exact h
theorem c_369 {n gp cl gs ge p:Nat} {C:List Int} {H:Hp} (h:GapAt H gp cl C gs ge) (hp:p≤(textOf C gs ge).length) {Q:AV→Hp→Prop} (q:∀ C' ge' H',Keep [gp,cl] H H'→GapAt H' gp cl C' p ge'→textOf C' p ge'=textOf C gs ge→C'.length=C.length→ge'+gs=ge+p→Q .none H'):WC (callF (n+1)) 369 [.ref gp,.int p] H Q:=by
  refine h.three fun X G Y eC eX eG eT l=>?_
  rw [eT] at hp q
  have h1:=h.ob
  have h2:=h.ce
  have h3:(C.map AV.int).length≤1000000:=len_le (Nat.le_trans h.h3 (by decide))
  have hn:=h.ne
  clear h eT
  subst eC eX eG
  refine run_369 fun ρ r1 r2=>?_
  unfold b_369
  walk_at "ww"
  refine ite_both (fun c1=>?_) (fun c1=>?_)
  · have c1:p<X.length:=by simpa using c1
    obtain ⟨X1,X2,rfl,rfl⟩:=split_at (Nat.le_of_lt c1)
    have p1:pick (((X1++X2)++(G++Y)).map AV.int) (some (X1.length:Int)) (some ((X1++X2).length:Int))=X2.map .int:=by
      rw [pick_nat rfl rfl,List.take_left' rfl,List.drop_left' rfl]
    have l2:(X2.map AV.int).length≤1000000:=len_le (by rw [List.length_append] at l; clear h1 h2 h3 hp c1 p1; lia)
    have l3:(((X1++X2)++(G++Y)).map AV.int).length+(X2.map AV.int).length≤1000000:=by
      rw [List.length_map,List.length_map,List.length_append,List.length_append,List.length_append]; rw [List.length_append] at l; clear h1 h2 h3 hp c1 p1 l2; lia
    have sp:splice (((X1++X2)++(G++Y)).map AV.int) (some ((((X1++X2).length+G.length:Nat):Int) - (X2.map AV.int).length)) (some (((X1++X2).length+G.length:Nat):Int)) (X2.map .int)=(X1++((X2++G).take G.length++(X2++Y))).map .int:=by
      rw [splice_int (i:=X1.length+G.length) (j:=(X1++X2).length+G.length) (by rw [List.length_map,List.length_append]; clear h1 h2 h3 hp c1 p1 l l2 l3; lia) rfl (by rw [List.length_append]; exact Nat.add_le_add_right (Nat.le_add_right _ _) _) three_le,gap_left]
    have lG:((X2++G).take G.length).length=G.length:=by rw [List.length_take,List.length_append,Nat.min_eq_left (Nat.le_add_left _ _)]
    walk_at "ww"
    rw [p1]
    walk_at "ww"
    rw [sp]
    walk_at "ww"
    simp only [List.set_set]
    have lc:(X1++((X2++G).take G.length++(X2++Y))).length=((X1++X2)++(G++Y)).length:=by
      simp only [List.length_append,lG]; clear h1 h2 h3 hp c1 p1 l l2 l3 sp; lia
    refine q (X1++((X2++G).take G.length++(X2++Y))) (X1.length+((X2++G).take G.length).length) _ (by walk_at "kp") (gap_of (get_set (by walk_at "hp")) (by walk_at "hp") rfl ?_ ?_) ?_ lc ?_
    · rw [lG,List.length_map,List.length_append]; clear h1 h2 h3 hp c1 p1 l l2 l3 sp lc; lia
    · rw [lG,List.length_append]; rw [List.length_append] at l; clear h1 h2 h3 hp c1 p1 l2 l3 sp lc; lia
    · rw [text_three,List.append_assoc]
    · rw [lG,List.length_append]; clear h1 h2 h3 hp c1 p1 l l2 l3 sp lc; lia
  · have c1:X.length≤p:=by simpa using c1
    obtain ⟨p',rfl⟩:∃ p',p=X.length+p':=⟨p - X.length,(Nat.add_sub_cancel' c1).symm⟩
    rw [List.length_append] at hp
    obtain ⟨Y1,Y2,rfl,rfl⟩:=split_at (Nat.le_of_add_le_add_left hp)
    have p1:pick ((X++(G++(Y1++Y2))).map AV.int) (some ((X.length+G.length:Nat):Int)) (some (((X.length+G.length:Nat):Int)+((X.length+Y1.length:Nat):Int) - (X.length:Int)))=Y1.map .int:=by
      rw [pick_nat (i:=X.length+(G.length+0)) (j:=X.length+(G.length+Y1.length)) (show ((X.length+G.length:Nat):Int)=((X.length+(G.length+0):Nat):Int) from rfl) (by clear h1 h2 h3 hp c1 l; lia),cut_high,cut_high,List.take_left' rfl]; rfl
    have l2:(Y1.map AV.int).length≤1000000:=len_le (by rw [List.length_append] at l; clear h1 h2 h3 hp c1 p1; lia)
    have l3:((X++(G++(Y1++Y2))).map AV.int).length+(Y1.map AV.int).length≤1000000:=by
      rw [List.length_map,List.length_map,List.length_append,List.length_append,List.length_append]; rw [List.length_append] at l; clear h1 h2 h3 hp c1 p1 l2; lia
    have sp:splice ((X++(G++(Y1++Y2))).map AV.int) (some (X.length:Int)) (some ((X.length:Int)+(Y1.map AV.int).length)) (Y1.map .int)=((X++Y1)++((G++Y1).drop Y1.length++Y2)).map .int:=by
      rw [splice_int (i:=X.length) (j:=X.length+Y1.length) rfl (by rw [List.length_map]; rfl) (Nat.le_add_right _ _) (by simp only [List.length_append]; clear h1 h2 h3 hp c1 p1 l l2 l3; lia),gap_right]
    have lG:((G++Y1).drop Y1.length).length=G.length:=by rw [List.length_drop,List.length_append,Nat.add_sub_cancel]
    walk_at "ww"
    rw [p1]
    walk_at "ww"
    rw [sp]
    walk_at "ww"
    simp only [List.set_set]
    have lc:((X++Y1)++((G++Y1).drop Y1.length++Y2)).length=(X++(G++(Y1++Y2))).length:=by
      simp only [List.length_append,lG]; clear h1 h2 h3 hp c1 p1 l l2 l3 sp; lia
    have eX:X.length+Y1.length=(X++Y1).length:=(List.length_append ..).symm
    rw [eX] at q ⊢
    refine q ((X++Y1)++((G++Y1).drop Y1.length++Y2)) ((X++Y1).length+((G++Y1).drop Y1.length).length) _ (by walk_at "kp") (gap_of (get_set (by walk_at "hp")) (by walk_at "hp") rfl ?_ ?_) ?_ lc ?_
    · rw [lG,List.length_map,List.length_append]; clear h1 h2 h3 hp c1 p1 l l2 l3 sp lc eX; lia
    · rw [lG,List.length_append]; rw [List.length_append] at l; clear h1 h2 h3 hp c1 p1 l2 l3 sp lc eX; lia
    · rw [text_three,List.append_assoc]
    · rw [lG]; clear h1 h2 h3 hp c1 p1 l l2 l3 sp lc; lia
theorem c_376 {n gp cl gs ge w:Nat} {C:List Int} {H:Hp} (h:GapAt H gp cl C gs ge) (hw:C.length+w+8≤400000) {Q:AV→Hp→Prop} (q:∀ C' ge' H',Keep [gp,cl] H H'→GapAt H' gp cl C' gs ge'→textOf C' gs ge'=textOf C gs ge→C'.length≤C.length+w+8→gs+w≤ge'→Q .none H'):WC (callF (n+1)) 376 [.ref gp,.int w] H Q:=by
  refine h.three fun X G Y eC eX eG eT l=>?_
  have h0:=h
  rw [eT] at q
  have h1:=h.ob
  have h2:=h.ce
  have h3:(C.map AV.int).length≤1000000:=len_le (Nat.le_trans h.h3 (by decide))
  have hn:=h.ne
  clear h
  subst eC eX eG
  refine run_376 fun ρ r1 r2=>?_
  unfold b_376
  walk_at "ww"
  refine ite_both (fun c1=>?_) (fun c1=>?_)
  · obtain ⟨z,hz,hz2⟩:∃ z:Nat,(w:Int) - (((X.length+G.length:Nat):Int) - X.length)+8=z∧w+8=G.length+z:=by
      have c1:0<(w:Int) - (((X.length+G.length:Nat):Int) - X.length):=by simpa using c1
      exact ⟨w+8 - G.length,by clear h1 h2 h3 hw l; lia,by clear h1 h2 h3 hw l; lia⟩
    have lz:z≤400000:=by clear h1 h2 h3 l c1 hz; lia
    have rz:List.replicate (z:Int).toNat (AV.int 0)=(List.replicate z (0:Int)).map AV.int:=by rw [List.map_replicate]; rfl
    have hzz:-1000000≤(z:Int)∧(z:Int)≤1000000:=⟨by clear h1 h2 h3 l c1 hz hw hz2 rz lz; lia,by clear h1 h2 h3 l c1 hz hw hz2 rz; lia⟩
    have l3:((X++(G++Y)).map AV.int).length+((List.replicate z (0:Int)).map AV.int).length≤1000000:=by
      rw [List.length_map,List.length_map,List.length_replicate]; clear h1 h2 h3 l c1 hz hz2 rz hzz; lia
    have sp:splice ((X++(G++Y)).map AV.int) (some ((X.length+G.length:Nat):Int)) (some ((X.length+G.length:Nat):Int)) ((List.replicate z (0:Int)).map .int)=(X++((G++List.replicate z 0)++Y)).map .int:=by
      rw [splice_int (i:=X.length+G.length) (j:=X.length+G.length) rfl rfl (Nat.le_refl _) three_le,List.take_length_add_append,List.drop_length_add_append,List.take_left' rfl,List.drop_left' rfl,List.append_assoc,List.append_assoc]
    walk_at "ww"
    rw [hz]
    walk_at "ww"
    rw [rz]
    walk_at "ww"
    rw [sp]
    walk_at "ww"
    have lG:(G++List.replicate z (0:Int)).length=w+8:=by rw [List.length_append,List.length_replicate]; exact hz2.symm
    refine q (X++((G++List.replicate z 0)++Y)) (X.length+(G++List.replicate z (0:Int)).length) _ (by walk_at "kp") (gap_of (get_set (by walk_at "hp")) (by walk_at "hp") rfl ?_ ?_) text_three ?_ ?_
    · rw [lG]; clear h1 h2 h3 l c1 rz hzz sp l3 hw lz; lia
    · rw [lG]; rw [List.length_append,List.length_append] at hw; clear h1 h2 h3 l c1 rz hzz sp l3 lz hz hz2; lia
    · simp only [List.length_append,List.length_replicate]; clear h1 h2 h3 l c1 rz hzz sp l3 lz hz hw; lia
    · rw [lG]; exact Nat.add_le_add_left (Nat.le_add_right _ _) _
  · have c1:¬ 0<(w:Int) - (((X.length+G.length:Nat):Int) - X.length):=by simpa using c1
    walk_at "ww"
    exact q _ _ H Keep.refl h0 eT (by rw [Nat.add_assoc]; exact Nat.le_add_right _ _) (by clear h1 h2 h3 l hw; lia)
theorem c_383 {n gp cl gs ge p xd:Nat} {C Z:List Int} {H:Hp} (h:GapAt H gp cl C gs ge) (hp:p≤(textOf C gs ge).length) (hx:H[xd]?=some (.list (Z.map .int))) (nx:xd≠cl) (hl:C.length+Z.length+8≤400000) {Q:AV→Hp→Prop} (q:∀ C' gs' ge' H',Keep [gp,cl] H H'→GapAt H' gp cl C' gs' ge'→textOf C' gs' ge'=(textOf C gs ge).take p++Z++(textOf C gs ge).drop p→C'.length≤C.length+Z.length+8→Q .none H'):WC (callF (n+2)) 383 [.ref gp,.int p,.ref xd] H Q:=by
  refine run_383 fun ρ r1 r2 r3=>?_
  have h1:=h.ob
  have ng:gp≠xd:=ne_tag h1 hx rfl
  have lZ:(Z.map AV.int).length=Z.length:=List.length_map ..
  have lz:(Z.map AV.int).length≤1000000:=len_le (by clear h1 hx; lia)
  unfold b_383
  walk_at "ww"
  rw [lZ]
  refine c_376 h hl fun C1 ge1 H1 k1 g1 t1 l1 w1=>?_
  have y1:=g1.ob
  have hx1:=k1 _ _ (nin2 (ng.symm) (nx)) hx
  walk_at "ww"
  refine c_369 (p:=p) g1 (by rw [t1]; exact hp) fun C2 ge2 H2 k2 g2 t2 l2 w2=>?_
  rw [← t1,← t2] at q
  have lb:C2.length≤C.length+Z.length+8:=l2 ▸ l1
  have z1:=g2.ob
  have z2:=g2.ce
  have z3:(C2.map AV.int).length≤1000000:=len_le (Nat.le_trans g2.h3 (by decide))
  have hn:=g2.ne
  have hx2:=k2 _ _ (nin2 (ng.symm) (nx)) hx1
  have K:Keep [gp,cl] H H2:=Keep.trans k1 k2
  have gg:p+Z.length≤ge2:=by clear h1 hx y1 hx1 z1 z2 hx2 hl lb z3 lz; lia
  refine g2.three fun X G Y eC eX eG eT l=>?_
  rw [eT] at q
  clear g2 eT t1 t2 g1 k1 k2 h1 hx y1 hx1 h l1 l2 w1 w2 hp hl
  subst eC eX eG
  obtain ⟨G1,G2,rfl,eZ⟩:=split_at (Nat.le_of_add_le_add_left gg)
  have l3:((X++(G1++G2++Y)).map AV.int).length+(Z.map AV.int).length≤1000000:=by
    rw [List.length_map,lZ,List.length_append,List.length_append]; rw [List.length_append] at l; clear z1 z2 hx2 lb z3 lz q K; rw [List.length_append,eZ]; lia
  have sp:splice ((X++(G1++G2++Y)).map AV.int) (some (X.length:Int)) (some ((X.length:Int)+(Z.map AV.int).length)) (Z.map .int)=((X++Z)++(G2++Y)).map .int:=by
    rw [splice_int (i:=X.length) (j:=X.length+G1.length) rfl (by rw [lZ,eZ]; rfl) (Nat.le_add_right _ _) (by rw [← eZ]; exact Nat.le_trans gg three_le),List.take_left' rfl,List.drop_length_add_append,List.append_assoc G1,List.drop_left' rfl,List.append_assoc]
  walk_at "ww"
  rw [sp]
  walk_at "ww"
  have eq1:(X++Z).length+G2.length=X.length+(G1++G2).length:=by rw [List.length_append,List.length_append,eZ,Nat.add_assoc]
  refine q ((X++Z)++(G2++Y)) (X++Z).length ((X++Z).length+G2.length) _ (by walk_at "kp") (gap_of (get_set (by walk_at "hp")) (by walk_at "hp") (by rw [lZ,List.length_append]; rfl) (by rw [eq1]) (by rw [eq1]; exact l)) ?_ ?_
  · rw [text_three,List.take_left' rfl,List.drop_left' rfl]
  · refine Nat.le_trans (Nat.le_of_eq ?_) lb
    simp only [List.length_append,eZ]; clear z1 z2 hx2 lb z3 lz q K l l3 sp eq1; lia
theorem c_390 {n gp cl gs ge s e:Nat} {C:List Int} {H:Hp} (h:GapAt H gp cl C gs ge) (hs:s≤e) (he:e≤(textOf C gs ge).length) {Q:AV→Hp→Prop} (q:∀ r C' gs' ge' H',Keep [gp,cl] H H'→GapAt H' gp cl C' gs' ge'→textOf C' gs' ge'=(textOf C gs ge).take s++(textOf C gs ge).drop e→C'.length≤C.length→Q (.ref r) H'):WC (callF (n+2)) 390 [.ref gp,.int s,.int e] H Q:=by
  refine run_390 fun ρ r1 r2 r3=>?_
  have h1:=h.ob
  unfold b_390
  walk_at "ww"
  refine c_362 h hs he fun r H1 k1 n1 e1=>?_
  have g1:=h.keep k1 (by walk_at "sm") (by walk_at "sm")
  have y1:=g1.ob
  have fin:∀ (ρ':Loc) (C':List Int) (gs' ge':Nat) (H':Hp) (R:Fl→Loc→Hp→Prop),ρ' "self" = some (.ref gp)→ρ' "start" = some (.int s)→ρ' "end" = some (.int e)→ρ' "gone" = some (.ref r)→Keep [gp,cl] H1 H'→GapAt H' gp cl C' gs' ge'→textOf C' gs' ge'=textOf C gs ge→C'.length=C.length→s≤gs'→gs'≤e→(∀ ρ2 H2,Q (.ref r) H2→R (.ret (.ref r)) ρ2 H2)→WS (sSeq
          (sAssign (eBin .Sub (eBin .Add (eAttr (eVar "self") "gap_end") (eVar "end")) (eAttr (eVar "self") "gap_start")) (tAttr (eVar "self") "gap_end"))
          (sSeq
            (sAssign (eVar "start") (tAttr (eVar "self") "gap_start"))
            (sSeq
              (sRet (eVar "gone"))
              sNil))) ρ' H' R:=fun ρ' C' gs' ge' H' R s1 s2 s3 s4 k' g' t' l' w1 w2 hR=>by
    have z1:=g'.ob
    have z2:=g'.ce
    have zn:=g'.ne
    have K:Keep [gp,cl] H H':=Keep.trans (k1.mono (by walk_at "sm")) k'
    rw [← t'] at he q
    refine g'.three fun X G Y eC eX eG eT l=>?_
    rw [eT] at he q
    clear g' eT t' k' k1 h1 h g1 y1 e1
    subst eC eX eG
    obtain ⟨X1,X2,rfl,rfl⟩:=split_at w1
    obtain ⟨e',rfl⟩:∃ e',e=(X1++X2).length+e':=⟨e - (X1++X2).length,(Nat.add_sub_cancel' w2).symm⟩
    rw [List.length_append (as:=X1++X2) (bs:=Y)] at he
    obtain ⟨Y1,Y2,rfl,rfl⟩:=split_at (Nat.le_of_add_le_add_left he)
    have eC:(X1++X2)++(G++(Y1++Y2))=X1++((X2++(G++Y1))++Y2):=by simp only [List.append_assoc]
    have eg:X1.length+(X2++(G++Y1)).length=(X1++X2).length+G.length+Y1.length:=by simp only [List.length_append]; clear z1 z2 l he w2 hs; lia
    rw [eC] at z2
    walk_at "ww"
    refine hR _ _ (q r (X1++((X2++(G++Y1))++Y2)) X1.length (X1.length+(X2++(G++Y1)).length) _ (by walk_at "kp") (gap_of (get_set (by walk_at "hp")) (by walk_at "hp") rfl ?_ ?_) ?_ ?_)
    · rw [eg]; clear z1 z2 l he w2 hs eg; lia
    · rw [eg]; rw [List.length_append (as:=Y1),← Nat.add_assoc] at l; exact l
    · rw [text_three,List.append_assoc X1,List.take_left' rfl,← List.append_assoc X1,List.drop_length_add_append,List.drop_left' rfl]
    · exact Nat.le_of_eq (eC ▸ l')
  walk_at "ww"
  refine ite_both (fun c1=>?_) (fun c1=>?_)
  · have c1:e<gs:=by simpa using c1
    walk_at "ww"
    refine c_369 (p:=e) g1 he fun C2 ge2 H2 k2 g2 t2 l2 w2=>?_
    have z1:=g2.ob
    walk_at "ww"
    rw [show decide ((s:Int) > e)=false by simp; exact hs]
    repeat first | exact fin _ C2 e ge2 H2 _ (by walk_at "lk") (by walk_at "lk") (by walk_at "lk") (by walk_at "lk") k2 g2 t2 l2 hs (Nat.le_refl _) (fun ρ2 H2 h=>h) | walk_at "w"
  · have c1:gs≤e:=by simpa using c1
    walk_at "ww"
    refine ite_both (fun c2=>?_) (fun c2=>?_)
    · have c2:gs<s:=by simpa using c2
      refine ws_seq (ws_expr ?_)
      walk_at "ww"
      refine c_369 (p:=s) g1 (Nat.le_trans hs he) fun C2 ge2 H2 k2 g2 t2 l2 w2=>?_
      repeat first | exact fin _ C2 s ge2 H2 _ (by walk_at "lk") (by walk_at "lk") (by walk_at "lk") (by walk_at "lk") k2 g2 t2 l2 (Nat.le_refl _) hs (fun ρ2 H2 h=>h) | walk_at "w"
    · have c2:s≤gs:=by simpa using c2
      repeat first | exact fin _ C gs ge H1 _ (by walk_at "lk") (by walk_at "lk") (by walk_at "lk") (by walk_at "lk") Keep.refl g1 rfl rfl c2 c1 (fun ρ2 H2 h=>h) | walk_at "w"
noncomputable def bufOb (gp mk li:Nat) (pt zv tk ct:Int):AO:=.inst 625 [("number",.int 1),("name",.str "b"),("text",.ref gp),("markers",.ref mk),("point",.int pt),("begv",.int 1),("zv",.int zv),("mark",.none),("is_live",.bool true),("is_read_only",.bool false),("ticks",.int tk),("codes_ticks",.int ct),("saved_ticks",.int 1),("listeners",.ref li),("undo",.none),("props",.none),("overlays",.none),("locals",.none),("syntax",.none),("file",.none)]
noncomputable def logOb (rw:Nat) (b e:AV) (g:Int):AO:=.inst 665 [("rows",.ref rw),("begin",b),("end",e),("growth",.int g)]
noncomputable abbrev LogSt:=Option (Int×Int×Int)
noncomputable def logA (rw:Nat):LogSt→AO
  | none=>logOb rw .none .none 0
  | some (b,e,g)=>logOb rw (.int b) (.int e) g
theorem otag_log {rw:Nat} {st:LogSt}:otag (logA rw st)=668:=by cases st <;> rfl
structure Ad where
  bf:Nat
  gp:Nat
  cl:Nat
  mr:Nat
  md:Nat
  li:Nat
  lg:Nat
  rw:Nat
  on:Bool
noncomputable def Ad.ls (A:Ad):List AV:=if A.on then [.ref A.lg] else []
structure EdAt (H:Hp) (A:Ad) (t:List Int) (st:LogSt) (n:Nat):Prop where
  bu:∃ pt tk ct,H[A.bf]?=some (bufOb A.gp A.mr A.li pt ((t.length:Int)+1) tk ct)
  ga:∃ C gs ge,GapAt H A.gp A.cl C gs ge∧textOf C gs ge=t∧C.length≤n
  mkk:H[A.mr]?=some (.inst 484 [("rows",.ref A.md)])
  md:H[A.md]?=some .dict0
  li:H[A.li]?=some (.list A.ls)
  lg:H[A.lg]?=some (logA A.rw st)
  rw:∃ rv,H[A.rw]?=some (.list rv)∧rv.length≤n
  n1:A.cl≠A.li
  n2:A.cl≠A.rw
  n3:A.li≠A.rw
theorem EdAt.buE {H:Hp} {A:Ad} {t:List Int} {st:LogSt} {n:Nat} {G:Prop} (h:EdAt H A t st n) (r:∀ pt tk ct,H[A.bf]?=some (bufOb A.gp A.mr A.li pt ((t.length:Int)+1) tk ct)→G):G:=let ⟨pt,tk,ct,e⟩:=h.bu; r pt tk ct e
theorem EdAt.gaE {H:Hp} {A:Ad} {t:List Int} {st:LogSt} {n:Nat} {G:Prop} (h:EdAt H A t st n) (r:∀ C gs ge,GapAt H A.gp A.cl C gs ge→textOf C gs ge=t→C.length≤n→G):G:=let ⟨C,gs,ge,e1,e2,e3⟩:=h.ga; r C gs ge e1 e2 e3
theorem EdAt.keep {M:List Nat} {H H':Hp} {A:Ad} {t:List Int} {st:LogSt} {n:Nat} (h:EdAt H A t st n) (k:Keep M H H') (a:A.bf ∉ M) (b:A.gp ∉ M) (c:A.cl ∉ M) (d:A.mr ∉ M) (e:A.md ∉ M) (f:A.li ∉ M) (g:A.lg ∉ M) (i:A.rw ∉ M):EdAt H' A t st n:=by
  obtain ⟨pt,tk,ct,h1⟩:=h.bu
  obtain ⟨C,gs,ge,h2,h3,h4⟩:=h.ga
  obtain ⟨rv,h5,h6⟩:=h.rw
  exact ⟨⟨pt,tk,ct,k _ _ a h1⟩,⟨C,gs,ge,h2.keep k b c,h3,h4⟩,k _ _ d h.mkk,k _ _ e h.md,k _ _ f h.li,k _ _ g h.lg,⟨rv,k _ _ i h5,h6⟩,h.n1,h.n2,h.n3⟩
theorem EdAt.keep0 {H H':Hp} {A:Ad} {t:List Int} {st:LogSt} {n:Nat} (h:EdAt H A t st n) (k:Keep [] H H'):EdAt H' A t st n:=h.keep k (by walk_at "sm") (by walk_at "sm") (by walk_at "sm") (by walk_at "sm") (by walk_at "sm") (by walk_at "sm") (by walk_at "sm") (by walk_at "sm")
theorem c_573 {n m:Nat} {A:Ad} {t:List Int} {st:LogSt} {H:Hp} (h:EdAt H A t st m) {Q:AV→Hp→Prop} (q:Q (.int t.length) H):WC (callF (n+2)) 573 [.ref A.bf] H Q:=by
  refine run_573 fun ρ r1=>?_
  obtain ⟨pt,tk,ct,h1⟩:=h.bu
  obtain ⟨C,gs,ge,h2,h3,h4⟩:=h.ga
  have h5:=h2.ob
  unfold b_573
  walk_at "ww"
  refine c_348 h2 ?_
  walk_at "ww"
  rw [h3]
  exact q
theorem c_587 {n m s e:Nat} {A:Ad} {t:List Int} {st:LogSt} {H:Hp} (h:EdAt H A t st m) (hs:s≤e) (he:e≤t.length) {Q:AV→Hp→Prop} (q:∀ r H',Keep [] H H'→H[r]?=none→H'[r]?=some (.list (((t.take e).drop s).map .int))→Q (.ref r) H'):WC (callF (n+2)) 587 [.ref A.bf,.int (s+1),.int (e+1)] H Q:=by
  refine run_587 fun ρ r1 r2 r3=>?_
  obtain ⟨pt,tk,ct,h1⟩:=h.bu
  obtain ⟨C,gs,ge,h2,h3,h4⟩:=h.ga
  have h5:=h2.ob
  subst h3
  unfold b_587
  walk_at "ww"
  rw [show (s:Int)+1 - 1=s by lia,show (e:Int)+1 - 1=e by lia]
  refine c_362 h2 hs he fun r H' k n e=>?_
  walk_at "ww"
  exact q r H' k n e
theorem c_622 {n:Nat} {bf gp mk li:Nat} {pt zv tk ct:Int} {H:Hp} (h:H[bf]?=some (bufOb gp mk li pt zv tk ct)) {Q:AV→Hp→Prop} (q:Q .none (H.set bf (bufOb gp mk li pt zv (tk+1) (tk+1)))):WC (callF (n+1)) 622 [.ref bf,.bool true] H Q:=by
  refine run_622 fun ρ r1 r2=>?_
  unfold b_622
  walk_at "ww"
  simp only [List.set_set]
  exact q
theorem c_648 {n:Nat} {a b c d:AV} {H:Hp} {Q:AV→Hp→Prop} (q:Q .none H):WC (callF (n+1)) 648 [a,b,c,d] H Q:=by
  refine run_648 fun ρ r1 r2 r3 r4=>?_
  unfold b_648
  walk_at "ww"
  exact q
theorem c_439 {n mk md:Nat} {H:Hp} (h:H[mk]?=some (.inst 484 [("rows",.ref md)])) (h2:H[md]?=some .dict0) {Q:AV→Hp→Prop} (q:Q (.ref H.length) (H++[.list []])):WC (callF (n+1)) 439 [.ref mk] H Q:=by
  refine run_439 fun ρ r1=>?_
  unfold b_439
  walk_at "ww"
  exact q
theorem ws_forNil {c:EX} {d:TX} {b:SX} {ρ:Loc} {H:Hp} {Q:Fl→Loc→Hp→Prop} (h:W c ρ H fun v H1=>∃ k,v=.ref k∧H1[k]?=some (.list [])∧Q .next ρ H1):WS (sFor (iList c) d b) ρ H Q:=by
  obtain ⟨v,H1,e,k,rfl,hk,q⟩:=h
  exact ws_forE ⟨_,H1,e,k,[],rfl,hk,by simp,fun i ρ' H'=>i=0∧ρ'=ρ∧H'=H1,⟨rfl,rfl,rfl⟩,fun i ρ' H' ⟨a,b,c⟩=>by subst a; subst c; exact ⟨Nat.le_refl _,hk⟩,fun i x ρ' H' hx _=>by simp at hx,fun ρ' H' ⟨_,a,b⟩=>by subst a; subst b; exact q⟩
theorem c_467 {n mk md:Nat} {a b c:AV} {H:Hp} (h:H[mk]?=some (.inst 484 [("rows",.ref md)])) (h2:H[md]?=some .dict0) {Q:AV→Hp→Prop} (q:∀ H',Keep [] H H'→Q .none H'):WC (callF (n+2)) 467 [.ref mk,a,b,c] H Q:=by
  refine run_467 fun ρ r1 r2 r3 r4=>?_
  unfold b_467
  refine ws_seq (ws_forNil ?_)
  walk_at "ww"
  refine c_439 h h2 ⟨_,rfl,get_new1,?_⟩
  walk_at "ww"
  exact q _ Keep.app
theorem c_474 {n mk md:Nat} {a b:AV} {H:Hp} (h:H[mk]?=some (.inst 484 [("rows",.ref md)])) (h2:H[md]?=some .dict0) {Q:AV→Hp→Prop} (q:∀ H',Keep [] H H'→Q .none H'):WC (callF (n+2)) 474 [.ref mk,a,b] H Q:=by
  refine run_474 fun ρ r1 r2 r3=>?_
  unfold b_474
  refine ws_seq (ws_forNil ?_)
  walk_at "ww"
  refine c_439 h h2 ⟨_,rfl,get_new1,?_⟩
  walk_at "ww"
  exact q _ Keep.app
theorem c_481 {n mk md:Nat} {a b c:AV} {H:Hp} (h:H[mk]?=some (.inst 484 [("rows",.ref md)])) (h2:H[md]?=some .dict0) {Q:AV→Hp→Prop} (q:∀ H',Keep [] H H'→Q .none H'):WC (callF (n+2)) 481 [.ref mk,a,b,c] H Q:=by
  refine run_481 fun ρ r1 r2 r3 r4=>?_
  unfold b_481
  refine ws_seq (ws_forNil ?_)
  walk_at "ww"
  refine c_439 h h2 ⟨_,rfl,get_new1,?_⟩
  walk_at "ww"
  exact q _ Keep.app
noncomputable def logUp (st:LogSt) (s e o:Int):LogSt:=match st with
  | none=>some (s,e,0+(e - s - o))
  | some (b,en,g)=>some (min b s,if en ≥ s+o then en+(e - s - o) else e,g+(e - s - o))
theorem c_641 {n k:Nat} {H:Hp} (h:H[k]?=some (.inst 665 [])) {Q:AV→Hp→Prop} (q:∀ rw H',Keep [k] H H'→H'[k]?=some (logA rw none)→H[rw]?=none→H'[rw]?=some (.list [])→Q .none H'):WC (callF (n+1)) 641 [.ref k] H Q:=by
  refine run_641 fun ρ r1=>?_
  unfold b_641
  walk_at "ww"
  simp only [List.set_set]
  refine q H.length _ (by walk_at "kp") (get_set (by walk_at "hp")) (get_none (Nat.le_refl _)) (get_set_ne get_new1 (len_ne h).symm)
theorem c_655 {n lg rw bf:Nat} {s e o:Int} {st:LogSt} {rv:List AV} {H:Hp} (h:H[lg]?=some (logA rw st)) (hr:H[rw]?=some (.list rv)) (hl:rv.length≤900000) {Q:AV→Hp→Prop} (q:∀ rv' H',Keep [lg,rw] H H'→H'[lg]?=some (logA rw (logUp st s e o))→H'[rw]?=some (.list rv')→rv'.length=rv.length+1→Q .none H'):WC (callF (n+1)) 655 [.ref lg,.ref bf,.int s,.int e,.int o] H Q:=by
  refine run_655 fun ρ r1 r2 r3 r4 r5=>?_
  unfold b_655
  cases st with
  | none=>
    have nl:lg≠rw:=ne_tag h hr rfl
    walk_at "ww"
    refine q _ _ (by walk_at "kp") (get_set (by walk_at "hp")) (by walk_at "hp") (by walk_at "sm")
  | some p=>
    obtain ⟨b,en,g⟩:=p
    have nl:lg≠rw:=ne_tag h hr rfl
    walk_at "ww"
    refine ite_both (fun c1=>?_) (fun c1=>?_)
    · walk_at "ww"
      refine q _ _ (by walk_at "kp") ?_ (by walk_at "hp") (by walk_at "sm")
      have c1:en ≥ s+o:=by simpa using c1
      rw [show logUp (some (b,en,g)) s e o=some (min b s,en+(e - s - o),g+(e - s - o)) by unfold logUp; simp only [if_pos c1]]
      exact get_set (by walk_at "hp")
    · walk_at "ww"
      refine q _ _ (by walk_at "kp") ?_ (by walk_at "hp") (by walk_at "sm")
      have c1:¬ en ≥ s+o:=by simpa using c1
      rw [show logUp (some (b,en,g)) s e o=some (min b s,e,g+(e - s - o)) by unfold logUp; simp only [if_neg c1]]
      exact get_set (by walk_at "hp")
theorem c_662 {n lg rw:Nat} {st:LogSt} {H:Hp} (h:H[lg]?=some (logA rw st)) {Q:AV→Hp→Prop} (q0:st=none→∀ rw' H',Keep [lg] H H'→H'[lg]?=some (logA rw' none)→H[rw']?=none→H'[rw']?=some (.list [])→Q .none H')
    (q1:∀ b e g,st=some (b,e,g)→∀ r rw' H',Keep [lg] H H'→H'[lg]?=some (logA rw' none)→H[rw']?=none→H'[rw']?=some (.list [])→H'[r]?=some (.tup [.int b,.int e,.int (e - b - g)])→Q (.ref r) H'):WC (callF (n+1)) 662 [.ref lg] H Q:=by
  refine run_662 fun ρ r1=>?_
  unfold b_662
  cases st with
  | none=>
    walk_at "ww"
    simp only [List.set_set]
    exact q0 rfl _ _ (by walk_at "kp") (get_set (by walk_at "hp")) (get_none (Nat.le_refl _)) (by walk_at "hp")
  | some p=>
    obtain ⟨b,e,g⟩:=p
    walk_at "ww"
    simp only [List.set_set]
    exact q1 b e g rfl _ _ _ (by walk_at "kp") (get_set (by walk_at "hp")) (get_none (by walk_at "sm")) (by walk_at "hp") (by walk_at "hp")
theorem c_676 {n m:Nat} {A:Ad} {t:List Int} {st:LogSt} {H:Hp} (h:EdAt H A t st m) {Q:AV→Hp→Prop} (q:Q .none H):WC (callF (n+1)) 676 [.ref A.bf] H Q:=by
  refine run_676 fun ρ r1=>?_
  refine h.buE fun pt tk ct h1=>?_
  unfold b_676
  walk_at "ww"
  exact q
theorem c_683 {n m:Nat} {A:Ad} {t:List Int} {st:LogSt} {H:Hp} {g:Int} (h:EdAt H A t st m) (hg:t.length+g≤4194304) {Q:AV→Hp→Prop} (q:Q .none H):WC (callF (n+3)) 683 [.ref A.bf,.int g] H Q:=by
  refine run_683 fun ρ r1 r2=>?_
  refine h.buE fun pt tk ct h1=>?_
  unfold b_683
  walk_at "ww"
  refine c_573 h ?_
  walk_at "ww"
  rw [show decide ((t.length:Int)+g > 4194304)=false by simp; lia]
  walk_at "ww"
  exact q
theorem c_690 {n m:Nat} {A:Ad} {t:List Int} {st:LogSt} {H:Hp} {s e:Int} (h:EdAt H A t st m) (h1:1≤s) (h2:s≤e) (h3:e≤t.length+1) {Q:AV→Hp→Prop} (q:∀ r H',Keep [] H H'→H'[r]?=some (.tup [.int s,.int e])→Q (.ref r) H'):WC (callF (n+1)) 690 [.ref A.bf,.int s,.int e] H Q:=by
  refine run_690 fun ρ r1 r2 r3=>?_
  refine h.buE fun pt tk ct h1'=>?_
  unfold b_690
  walk_at "ww"
  rw [Int.min_eq_left h2,Int.max_eq_right h2,show decide (s<1)=false by simp; lia]
  walk_at "ww"
  rw [show decide (e > (t.length:Int)+1)=false by simp; lia]
  walk_at "ww"
  rw [Int.min_eq_left h2,Int.max_eq_right h2]
  exact q _ _ (by walk_at "kp") (by walk_at "hp")
theorem c_725 {n m:Nat} {A:Ad} {t:List Int} {st:LogSt} {H:Hp} {a b:AV} (h:EdAt H A t st m) {Q:AV→Hp→Prop} (q:Q .none H):WC (callF (n+1)) 725 [.ref A.bf,a,b] H Q:=by
  refine run_725 fun ρ r1 r2 r3=>?_
  refine h.buE fun pt tk ct h1=>?_
  unfold b_725
  walk_at "ww"
  exact q
theorem c_732 {n m:Nat} {A:Ad} {t:List Int} {st:LogSt} {H:Hp} {a b c:AV} (h:EdAt H A t st m) {Q:AV→Hp→Prop} (q:Q .none H):WC (callF (n+1)) 732 [.ref A.bf,a,b,c] H Q:=by
  refine run_732 fun ρ r1 r2 r3 r4=>?_
  refine h.buE fun pt tk ct h1=>?_
  unfold b_732
  walk_at "ww"
  exact q
theorem ws_forOne {c:EX} {d:TX} {b:SX} {ρ:Loc} {H:Hp} {Q:Fl→Loc→Hp→Prop} (h:W c ρ H fun v H1=>∃ k x,v=.ref k∧H1[k]?=some (.list [x])∧WT d x ρ H1 fun ρ1 H2=>WS b ρ1 H2 fun f ρ2 H3=>match f with
    | .next=>H3[k]?=some (.list [x])∧Q .next ρ2 H3
    | .ret v=>Q (.ret v) ρ2 H3):WS (sFor (iList c) d b) ρ H Q:=by
  obtain ⟨v,H1,e,k,x,rfl,hk,q⟩:=h
  refine ws_forE ⟨_,H1,e,k,[x],rfl,hk,by simp,fun i ρ' H'=>(i=0∧ρ'=ρ∧H'=H1)∨(i=1∧H'[k]?=some (.list [x])∧Q .next ρ' H'),.inl ⟨rfl,rfl,rfl⟩,?_,?_,?_⟩
  · rintro i ρ' H' (⟨rfl,rfl,rfl⟩ | ⟨rfl,h,_⟩)
    · exact ⟨Nat.zero_le _,hk⟩
    · exact ⟨Nat.le_refl _,h⟩
  · rintro i y ρ' H' hx (⟨rfl,rfl,rfl⟩ | ⟨rfl,h,_⟩)
    · cases hx
      obtain ⟨ρ1,H2,e1,f,ρ2,H3,e2,q⟩:=q
      refine ⟨ρ1,H2,e1,f,ρ2,H3,e2,?_⟩
      cases f with
      | next=>exact .inr ⟨rfl,q⟩
      | ret v=>exact q
    · simp at hx
  · rintro ρ' H' (⟨h,_⟩ | ⟨_,_,h⟩)
    · simp at h
    · exact h
theorem c_697 {n m:Nat} {A:Ad} {t:List Int} {st:LogSt} {H:Hp} {a b:Int} (h:EdAt H A t st m) {Q:AV→Hp→Prop} (q:∀ H',Keep [] H H'→Q .none H'):WC (callF (n+2)) 697 [.ref A.bf,.int a,.int b] H Q:=by
  refine run_697 fun ρ r1 r2 r3=>?_
  refine h.buE fun pt tk ct h1=>?_
  have hli:=h.li
  have hlg:=h.lg
  unfold b_697
  unfold Ad.ls at hli
  split at hli
  · refine ws_seq (ws_forOne ?_)
    walk_at "ww"
    refine ⟨_,_,rfl,get_new1,?_⟩
    have hlg':(H++[AO.list [AV.ref A.lg]])[A.lg]?=some (logA A.rw st):=get_app hlg
    cases st with
    | none=>
      walk_at "ww"
      refine c_648 ?_
      walk_at "ww"
      refine ⟨get_new1,?_⟩
      walk_at "ww"
      exact q _ Keep.app
    | some p=>
      obtain ⟨x,y,z⟩:=p
      walk_at "ww"
      refine c_648 ?_
      walk_at "ww"
      refine ⟨get_new1,?_⟩
      walk_at "ww"
      exact q _ Keep.app
  · refine ws_seq (ws_forNil ?_)
    walk_at "ww"
    refine ⟨_,rfl,get_new1,?_⟩
    walk_at "ww"
    exact q _ Keep.app
noncomputable def logUp' (on:Bool) (st:LogSt) (s e o:Int):LogSt:=if on then logUp st s e o else st
theorem c_704 {n m:Nat} {A:Ad} {t:List Int} {st:LogSt} {H:Hp} {s e o:Int} (h:EdAt H A t st m) (hm:m≤300000) {Q:AV→Hp→Prop} (q:∀ H',Keep [A.bf,A.lg,A.rw] H H'→EdAt H' A t (logUp' A.on st s e o) (m+1)→Q .none H'):WC (callF (n+2)) 704 [.ref A.bf,.int s,.int e,.int o] H Q:=by
  refine run_704 fun ρ r1 r2 r3 r4=>?_
  refine h.buE fun pt tk ct h1=>?_
  refine h.gaE fun C gs ge h2 h3 h4=>?_
  obtain ⟨rv,h5,h6⟩:=h.rw
  have hli:=h.li
  have hlg:=h.lg
  have n1:=h.n1
  have n2:=h.n2
  have n3:=h.n3
  have hbl:A.bf≠A.lg:=ne_tag h1 hlg (by rw [otag_log]; rfl)
  have hbr:A.bf≠A.rw:=ne_tag h1 h5 rfl
  have hbi:A.bf≠A.li:=ne_tag h1 hli rfl
  unfold b_704
  walk_at "ww"
  refine c_622 h1 ?_
  walk_at "ww"
  have y1:=get_set (o:=bufOb A.gp A.mr A.li pt (t.length+1) (tk+1) (tk+1)) h1
  have k1:Keep [A.bf] H (H.set A.bf (bufOb A.gp A.mr A.li pt (t.length+1) (tk+1) (tk+1))):=Keep.set (by walk_at "sm")
  generalize H.set A.bf (bufOb A.gp A.mr A.li pt (t.length+1) (tk+1) (tk+1))=H1 at *
  have hlg1:=k1 _ _ (by simp; exact hbl.symm) hlg
  have hrw1:=k1 _ _ (by simp; exact hbr.symm) h5
  have hli1:=k1 _ _ (by simp; exact hbi.symm) hli
  have hgb:A.gp≠A.bf:=ne_tag h2.ob h1 rfl
  have hcb:A.cl≠A.bf:=ne_tag h2.ce h1 rfl
  have hmb:A.mr≠A.bf:=ne_tag h.mkk h1 rfl
  have hdb:A.md≠A.bf:=ne_tag h.md h1 rfl
  have ed1:EdAt H1 A t st m:=⟨⟨pt,_,_,y1⟩,⟨C,gs,ge,h2.keep k1 (by simp [hgb]) (by simp [hcb]),h3,h4⟩,k1 _ _ (by simp [hmb]) h.mkk,k1 _ _ (by simp [hdb]) h.md,hli1,hlg1,⟨rv,hrw1,h6⟩,n1,n2,n3⟩
  have hls:A.on=true→A.ls=[.ref A.lg]:=fun h=>by unfold Ad.ls; rw [if_pos h]
  have hls0:A.on=false→A.ls=[]:=fun h=>by unfold Ad.ls; rw [if_neg (by simp [h])]
  cases hon:A.on with
  | true=>
    rw [hls hon] at hli1
    refine ws_forOne ?_
    walk_at "ww"
    refine ⟨_,_,rfl,get_new1,?_⟩
    have hlg2:(H1++[AO.list [AV.ref A.lg]])[A.lg]?=some (logA A.rw st):=get_app hlg1
    have go:∀ R:AV→Hp→Prop,(∀ H2,Keep [A.lg,A.rw] H1 H2→H2[H1.length]?=some (.list [.ref A.lg])→EdAt H2 A t (logUp' A.on st s e o) (m+1)→R .none H2)→WC (callF (n+1)) 655 [.ref A.lg,.ref A.bf,.int s,.int e,.int o] (H1++[AO.list [AV.ref A.lg]]) R:=fun R hR=>by
      refine c_655 hlg2 (get_app hrw1) (by lia) fun rv' H2 k2 f1 f2 f3=>?_
      have k2':Keep [A.lg,A.rw] H1 H2:=Keep.trans Keep.app k2
      have nlr:A.lg≠H1.length:=(len_ne hlg1).symm
      have nrr:A.rw≠H1.length:=(len_ne hrw1).symm
      refine hR H2 k2' (k2 _ _ (by simp [nlr.symm,nrr.symm]) get_new1) ?_
      have e0:∀ (j:Nat) (o:AO),H1[j]?=some o→Nat.beq (otag o) 668=false→j≠A.rw→H2[j]?=some o:=fun j o hj nl nr=>k2' j o (nin2 (ne_tag hj hlg1 (by rw [otag_log]; exact nl)) (nr)) hj
      refine ⟨⟨pt,_,_,e0 _ _ y1 rfl (ne_tag y1 hrw1 rfl)⟩,?_,?_,?_,?_,?_,?_,n1,n2,n3⟩
      · refine ed1.gaE fun C gs ge h2 h3 h4=>?_
        exact ⟨C,gs,ge,⟨e0 _ _ h2.ob rfl (ne_tag h2.ob hrw1 rfl),e0 _ _ h2.ce rfl n2,h2.h1,h2.h2,h2.h3⟩,h3,by lia⟩
      · exact e0 _ _ ed1.mkk rfl (ne_tag ed1.mkk hrw1 rfl)
      · exact e0 _ _ ed1.md rfl (ne_tag ed1.md hrw1 rfl)
      · exact e0 _ _ ed1.li rfl n3
      · unfold logUp'; rw [if_pos hon]; exact f1
      · exact ⟨rv',f2,by lia⟩
    have kk:∀ H2,Keep [A.lg,A.rw] H1 H2→Keep [A.bf,A.lg,A.rw] H H2:=fun H2 k=>Keep.trans (k1.mono (by walk_at "sm")) (k.mono (by walk_at "sm"))
    cases st with
    | none=>
      walk_at "ww"
      refine go _ fun H2 k2 l2 ed2=>?_
      walk_at "ww"
      refine ⟨l2,?_⟩
      walk_at "ww"
      exact q _ (kk _ k2) ed2
    | some p=>
      obtain ⟨x,y,z⟩:=p
      walk_at "ww"
      refine go _ fun H2 k2 l2 ed2=>?_
      walk_at "ww"
      refine ⟨l2,?_⟩
      walk_at "ww"
      exact q _ (kk _ k2) ed2
  | false=>
    rw [hls0 hon] at hli1
    refine ws_forNil ?_
    walk_at "ww"
    refine ⟨_,rfl,get_new1,?_⟩
    walk_at "ww"
    have ed2:=ed1.keep0 (Keep.app (t:=[AO.list []]))
    refine q _ (Keep.trans (k1.mono (by walk_at "sm")) Keep.app) ?_
    unfold logUp'
    rw [if_neg (by simp [hon])]
    refine ed2.gaE fun C gs ge g2 g3 g4=>?_
    obtain ⟨rv,g5,g6⟩:=ed2.rw
    exact { ed2 with ga:=⟨C,gs,ge,g2,g3,by lia⟩,rw:=⟨rv,g5,by lia⟩ }
theorem logA_inst {rw:Nat} {st:LogSt}:∃ b e g,logA rw st=logOb rw b e g:=by
  cases st with
  | none=>exact ⟨_,_,_,rfl⟩
  | some p=>exact ⟨_,_,_,rfl⟩
theorem EdAt.text {H H':Hp} {A:Ad} {t t':List Int} {st:LogSt} {m m':Nat} {pt tk ct:Int} {C:List Int} {gs ge:Nat} (h:EdAt H A t st m) (k:Keep [A.bf,A.gp,A.cl] H H') (b:H'[A.bf]?=some (bufOb A.gp A.mr A.li pt ((t'.length:Int)+1) tk ct)) (g:GapAt H' A.gp A.cl C gs ge) (e:textOf C gs ge=t') (l1:C.length≤m') (l2:m≤m'):EdAt H' A t' st m':=by
  refine h.buE fun pt tk ct h1=>?_
  refine h.gaE fun C gs ge h2 h3 h4=>?_
  obtain ⟨rv,h5,h6⟩:=h.rw
  have g1:=h2.ob
  have g2:=h2.ce
  have hlg:=h.lg
  have hmk:=h.mkk
  have hmd:=h.md
  have hli:=h.li
  obtain ⟨x,y,z,el⟩:=logA_inst (rw:=A.rw) (st:=st)
  rw [el] at hlg
  refine ⟨⟨_,_,_,b⟩,⟨_,_,_,g,e,l1⟩,k _ _ ?_ h.mkk,k _ _ ?_ h.md,k _ _ ?_ h.li,k _ _ ?_ h.lg,⟨rv,k _ _ ?_ h5,by lia⟩,h.n1,h.n2,h.n3⟩
  · simp; exact ⟨ne_tag hmk h1 rfl,ne_tag hmk g1 rfl,ne_tag hmk g2 rfl⟩
  · simp; exact ⟨ne_tag hmd h1 rfl,ne_tag hmd g1 rfl,ne_tag hmd g2 rfl⟩
  · simp; exact ⟨ne_tag hli h1 rfl,ne_tag hli g1 rfl,h.n1.symm⟩
  · simp; exact ⟨ne_tag hlg h1 rfl,ne_tag hlg g1 rfl,ne_tag hlg g2 rfl⟩
  · simp; exact ⟨ne_tag h5 h1 rfl,ne_tag h5 g1 rfl,h.n2.symm⟩
theorem c_718 {n m p xd:Nat} {A:Ad} {t X:List Int} {st:LogSt} {H:Hp} (h:EdAt H A t st m) (hp:p≤t.length) (hx:H[xd]?=some (.list (X.map .int))) (nx:xd≠A.cl) (hm:m+X.length+8≤300000) {Q:AV→Hp→Prop} (q:∀ H',Keep [A.bf,A.gp,A.cl] H H'→EdAt H' A (t.take p++X++t.drop p) st (m+X.length+8)→Q .none H'):WC (callF (n+3)) 718 [.ref A.bf,.int ((p:Int)+1),.ref xd] H Q:=by
  refine run_718 fun ρ r1 r2 r3=>?_
  refine h.buE fun pt tk ct h1=>?_
  refine h.gaE fun C gs ge h2 h3 h4=>?_
  have h5:=h2.ob
  have hbg:A.bf≠A.gp:=ne_tag h1 h5 rfl
  have hbc:A.bf≠A.cl:=ne_tag h1 h2.ce rfl
  have hbx:xd≠A.bf:=ne_tag hx h1 rfl
  have hgx:xd≠A.gp:=ne_tag hx h5 rfl
  subst h3
  unfold b_718
  walk_at "ww"
  rw [show (p:Int)+1 - 1=p by lia]
  refine c_383 h2 hp hx nx (by lia) fun C' gs' ge' H1 k1 g1 t1 l1=>?_
  have y1:=k1 _ _ (nin2 (hbg) (hbc)) h1
  have hx1:=k1 _ _ (nin2 (hgx) (nx)) hx
  have lX:(X.map AV.int).length=X.length:=List.length_map ..
  have tl:=congrArg List.length t1
  simp only [List.length_append,List.length_take,List.length_drop] at tl
  have fin:∀ (H2:Hp) (pt':Int),H2=H1.set A.bf (bufOb A.gp A.mr A.li pt' (((textOf C gs ge).length:Int)+1+X.length) tk ct)→Q .none H2:=fun H2 pt' e=>by
    subst e
    have k2:Keep [A.bf,A.gp,A.cl] H (H1.set A.bf (bufOb A.gp A.mr A.li pt' (((textOf C gs ge).length:Int)+1+X.length) tk ct)):=Keep.trans (k1.mono (by walk_at "sm")) (Keep.set (by walk_at "sm"))
    refine q _ k2 (h.text k2 (pt:=pt') (tk:=tk) (ct:=ct) ?_ (g1.keep (Keep.set (M:=[A.bf]) (by walk_at "sm")) (by simp [hbg.symm]) (by simp [hbc.symm])) t1 (by lia) (by lia))
    rw [show ((((textOf C gs ge).take p++X++(textOf C gs ge).drop p).length:Nat):Int)+1=((textOf C gs ge).length:Int)+1+X.length by simp only [List.length_append,List.length_take,List.length_drop]; lia]
    exact get_set y1
  walk_at "ww"
  rw [lX]
  walk_at "ww"
  refine ite_both (fun c1=>?_) (fun c1=>?_)
  · walk_at "ww"
    rw [lX]
    simp only [List.set_set]
    exact fin _ _ rfl
  · walk_at "ww"
    exact fin _ _ rfl
theorem c_711 {n m p r:Nat} {A:Ad} {t:List Int} {st:LogSt} {H:Hp} (h:EdAt H A t st m) (hp:p≤r) (hr:r≤t.length) (hm:m≤300000) {Q:AV→Hp→Prop} (q:∀ g H',Keep [A.bf,A.gp,A.cl] H H'→EdAt H' A (t.take p++t.drop r) st m→Q (.ref g) H'):WC (callF (n+3)) 711 [.ref A.bf,.int ((p:Int)+1),.int ((r:Int)+1)] H Q:=by
  refine run_711 fun ρ r1 r2 r3=>?_
  refine h.buE fun pt tk ct h1=>?_
  refine h.gaE fun C gs ge h2 h3 h4=>?_
  have h5:=h2.ob
  have hbg:A.bf≠A.gp:=ne_tag h1 h5 rfl
  have hbc:A.bf≠A.cl:=ne_tag h1 h2.ce rfl
  subst h3
  unfold b_711
  walk_at "ww"
  rw [show (p:Int)+1 - 1=p by lia,show (r:Int)+1 - 1=r by lia]
  refine c_390 h2 hp hr fun g C' gs' ge' H1 k1 g1 t1 l1=>?_
  have y1:=k1 _ _ (nin2 (hbg) (hbc)) h1
  have tl:=congrArg List.length t1
  simp only [List.length_append,List.length_take,List.length_drop] at tl
  have fin:∀ (H2:Hp) (pt':Int),H2=H1.set A.bf (bufOb A.gp A.mr A.li pt' (((textOf C gs ge).length:Int)+1 - ((r:Int)+1 - ((p:Int)+1))) tk ct)→Q (.ref g) H2:=fun H2 pt' e=>by
    subst e
    have k2:Keep [A.bf,A.gp,A.cl] H (H1.set A.bf (bufOb A.gp A.mr A.li pt' (((textOf C gs ge).length:Int)+1 - ((r:Int)+1 - ((p:Int)+1))) tk ct)):=Keep.trans (k1.mono (by walk_at "sm")) (Keep.set (by walk_at "sm"))
    refine q _ _ k2 (h.text k2 (pt:=pt') (tk:=tk) (ct:=ct) ?_ (g1.keep (Keep.set (M:=[A.bf]) (by walk_at "sm")) (by simp [hbg.symm]) (by simp [hbc.symm])) t1 (by lia) (by lia))
    rw [show ((((textOf C gs ge).take p++(textOf C gs ge).drop r).length:Nat):Int)+1=((textOf C gs ge).length:Int)+1 - ((r:Int)+1 - ((p:Int)+1)) by simp only [List.length_append,List.length_take,List.length_drop]; lia]
    exact get_set y1
  walk_at "ww"
  refine ite_both (fun c1=>?_) (fun c1=>?_)
  · walk_at "ww"
    simp only [List.set_set]
    exact fin _ _ rfl
  · walk_at "ww"
    exact fin _ _ rfl
noncomputable def EditR (on:Bool) (t:List Int) (st:LogSt) (t':List Int) (st':LogSt):Prop:=(t'=t∧st'=st)∨∃ (p r:Nat) (X:List Int),p≤r∧r≤t.length∧t'=t.take p++X++t.drop r∧st'=logUp' on st ((p:Int)+1) ((p:Int)+1+X.length) ((r:Int) - p)
theorem EdAt.up {H:Hp} {A:Ad} {t:List Int} {st:LogSt} {m m':Nat} (h:EdAt H A t st m) (l:m≤m'):EdAt H A t st m':=by
  refine h.gaE fun C gs ge g2 g3 g4=>?_
  obtain ⟨rv,g5,g6⟩:=h.rw
  exact { h with ga:=⟨C,gs,ge,g2,g3,by lia⟩,rw:=⟨rv,g5,by lia⟩ }
noncomputable def Ad.M (A:Ad):List Nat:=[A.bf,A.gp,A.cl,A.lg,A.rw]
theorem Ad.m1 {A:Ad} {H H':Hp} (k:Keep [A.bf,A.gp,A.cl] H H'):Keep A.M H H':=k.mono (by simp [Ad.M])
theorem Ad.m2 {A:Ad} {H H':Hp} (k:Keep [A.bf,A.lg,A.rw] H H'):Keep A.M H H':=k.mono (by simp [Ad.M])
theorem Ad.m0 {A:Ad} {H H':Hp} (k:Keep [] H H'):Keep A.M H H':=k.mono (by walk_at "sm")
structure Outer (H:Hp) (A:Ad) (xd:Nat) (X:List Int):Prop where
  ob:H[xd]?=some (.list (X.map .int))
  n1:xd≠A.cl
  n2:xd≠A.rw
theorem Outer.keep {H H':Hp} {A:Ad} {xd m:Nat} {t X:List Int} {st:LogSt} (h:Outer H A xd X) (e:EdAt H A t st m) (k:Keep A.M H H'):Outer H' A xd X:=by
  refine e.buE fun pt tk ct h1=>?_
  refine e.gaE fun C gs ge h2 _ _=>?_
  have h3:=h2.ob
  have hlg:=e.lg
  have hx:=h.ob
  obtain ⟨x,y,z,el⟩:=logA_inst (rw:=A.rw) (st:=st)
  rw [el] at hlg
  refine ⟨k _ _ ?_ h.ob,h.n1,h.n2⟩
  simp [Ad.M]
  exact ⟨ne_tag hx h1 rfl,ne_tag hx h3 rfl,h.n1,ne_tag hx hlg rfl,h.n2⟩
theorem c_739 {n m p xd:Nat} {A:Ad} {t X:List Int} {st:LogSt} {H:Hp} {w:Bool} (h:EdAt H A t st m) (hp:p≤t.length) (hx:Outer H A xd X) (hm:m+X.length+9≤300000) (ht:t.length+X.length≤300000) {Q:AV→Hp→Prop} (q:∀ t' st' H',Keep A.M H H'→EditR A.on t st t' st'→t'.length≤t.length+X.length→EdAt H' A t' st' (m+X.length+9)→Q .none H'):WC (callF (n+4)) 739 [.ref A.bf,.int ((p:Int)+1),.ref xd,.bool w,.bool false] H Q:=by
  refine run_739 fun ρ r1 r2 r3 r4 r5=>?_
  have lX:(X.map AV.int).length=X.length:=List.length_map ..
  unfold b_739
  walk_at "ww"
  refine c_676 h ?_
  walk_at "ww"
  refine c_690 h (by lia) (by lia) (by lia) fun r H1 k1 e1=>?_
  have ed1:=h.keep0 k1
  have hx1:=hx.keep h (Ad.m0 k1)
  have y1:=hx1.ob
  walk_at "ww"
  rw [lX]
  refine ite_both (fun c1=>?_) (fun c1=>?_)
  · walk_at "ww"
    exact q t st H1 (Ad.m0 k1) (.inl ⟨rfl,rfl⟩) (by lia) (ed1.up (by lia))
  · walk_at "ww"
    rw [lX]
    refine c_683 ed1 (by lia) ?_
    walk_at "ww"
    refine c_697 ed1 fun H2 k2=>?_
    have ed2:=ed1.keep0 k2
    have hx2:=hx1.keep ed1 (Ad.m0 k2)
    walk_at "ww"
    refine c_718 ed2 hp hx2.ob hx2.n1 (by lia) fun H3 k3 ed3=>?_
    have hx3:=hx2.keep ed2 (Ad.m1 k3)
    have y3:=hx3.ob
    refine ed3.buE fun pt3 tk3 ct3 b3=>?_
    have mk3:=ed3.mkk
    walk_at "ww"
    refine c_467 mk3 ed3.md fun H4 k4=>?_
    have ed4:=ed3.keep0 k4
    have hx4:=hx3.keep ed3 (Ad.m0 k4)
    have y4:=hx4.ob
    walk_at "ww"
    refine c_732 ed4 ?_
    walk_at "ww"
    rw [lX]
    refine c_704 ed4 (by lia) fun H5 k5 ed5=>?_
    walk_at "ww"
    refine q _ _ H5 (Keep.trans (Ad.m0 k1) (Keep.trans (Ad.m0 k2) (Keep.trans (Ad.m1 k3) (Keep.trans (Ad.m0 k4) (Ad.m2 k5))))) (.inr ⟨p,p,X,Nat.le_refl _,hp,rfl,?_⟩) ?_ (ed5.up (by lia))
    · rw [Int.sub_self]
    · simp; lia
theorem c_747 {n m p xd:Nat} {A:Ad} {t X:List Int} {st:LogSt} {H:Hp} (h:EdAt H A t st m) (hp:p≤t.length) (hx:Outer H A xd X) (hm:m+X.length+9≤300000) (ht:t.length+X.length≤300000) {Q:AV→Hp→Prop} (q:∀ t' st' H',Keep A.M H H'→EditR A.on t st t' st'→t'.length≤t.length+X.length→EdAt H' A t' st' (m+X.length+9)→Q .none H'):WC (callF (n+5)) 747 [.ref A.bf,.int ((p:Int)+1),.ref xd] H Q:=by
  refine run_747 fun ρ r1 r2 r3 r4=>?_
  unfold b_747
  walk_at "ww"
  refine c_739 h hp hx hm ht fun t' st' H' k e l ed=>?_
  walk_at "ww"
  exact q t' st' H' k e l ed
theorem c_754 {n m p r:Nat} {A:Ad} {t:List Int} {st:LogSt} {H:Hp} (h:EdAt H A t st m) (hp:p≤r) (hr:r≤t.length) (hm:m+9≤300000) {Q:AV→Hp→Prop} (q:∀ g t' st' H',Keep A.M H H'→EditR A.on t st t' st'→t'.length≤t.length→EdAt H' A t' st' (m+9)→Q (.ref g) H'):WC (callF (n+4)) 754 [.ref A.bf,.int ((p:Int)+1),.int ((r:Int)+1)] H Q:=by
  refine run_754 fun ρ r1 r2 r3=>?_
  unfold b_754
  walk_at "ww"
  refine c_676 h ?_
  walk_at "ww"
  refine c_690 h (by lia) (by lia) (by lia) fun r H1 k1 e1=>?_
  have ed1:=h.keep0 k1
  walk_at "ww"
  refine ite_both (fun c1=>?_) (fun c1=>?_)
  · walk_at "ww"
    exact q _ t st _ (Ad.m0 (Keep.trans k1 Keep.app)) (.inl ⟨rfl,rfl⟩) (Nat.le_refl _) ((ed1.keep0 Keep.app).up (by lia))
  · walk_at "ww"
    refine c_697 ed1 fun H2 k2=>?_
    have ed2:=ed1.keep0 k2
    walk_at "ww"
    refine c_711 ed2 hp hr (by lia) fun g H3 k3 ed3=>?_
    refine ed3.buE fun pt3 tk3 ct3 b3=>?_
    have mk3:=ed3.mkk
    walk_at "ww"
    refine c_474 mk3 ed3.md fun H4 k4=>?_
    have ed4:=ed3.keep0 k4
    walk_at "ww"
    refine c_725 ed4 ?_
    walk_at "ww"
    refine c_704 ed4 (by lia) fun H5 k5 ed5=>?_
    walk_at "ww"
    refine q g _ _ H5 (Keep.trans (Ad.m0 k1) (Keep.trans (Ad.m0 k2) (Keep.trans (Ad.m1 k3) (Keep.trans (Ad.m0 k4) (Ad.m2 k5))))) (.inr ⟨p,_,[],hp,hr,by simp,?_⟩) ?_ (ed5.up (by lia))
    · congr 1
      lia
    · simp; lia
theorem EdAt.pt {H:Hp} {A:Ad} {t:List Int} {st:LogSt} {m:Nat} {pt':Int} (h:EdAt H A t st m):∃ pt tk ct,H[A.bf]?=some (bufOb A.gp A.mr A.li pt ((t.length:Int)+1) tk ct)∧EdAt (H.set A.bf (bufOb A.gp A.mr A.li pt' ((t.length:Int)+1) tk ct)) A t st m:=by
  refine h.buE fun pt tk ct h1=>?_
  refine h.gaE fun C gs ge h2 h3 h4=>?_
  have h5:=h2.ob
  have h6:=h2.ce
  refine ⟨pt,tk,ct,h1,h.text (Keep.set (by walk_at "sm")) (get_set h1) (h2.keep (M:=[A.bf]) (Keep.set (by walk_at "sm")) ?_ ?_) h3 h4 (Nat.le_refl _)⟩
  · simp; exact ne_tag h5 h1 rfl
  · simp; exact ne_tag h6 h1 rfl
theorem c_762 {n m p r xd:Nat} {A:Ad} {t X:List Int} {st:LogSt} {H:Hp} (h:EdAt H A t st m) (hp:p≤r) (hr:r≤t.length) (hx:Outer H A xd X) (hm:m+X.length+9≤300000) (ht:t.length+X.length≤300000) {Q:AV→Hp→Prop} (q:∀ g t' st' H',Keep A.M H H'→EditR A.on t st t' st'→t'.length≤t.length+X.length→EdAt H' A t' st' (m+X.length+9)→Q (.ref g) H'):WC (callF (n+6)) 762 [.ref A.bf,.int ((p:Int)+1),.int ((r:Int)+1),.ref xd] H Q:=by
  refine run_762 fun ρ r1 r2 r3 r4 r5=>?_
  have lX:(X.map AV.int).length=X.length:=List.length_map ..
  unfold b_762
  walk_at "ww"
  refine c_676 h ?_
  walk_at "ww"
  refine c_690 h (by lia) (by lia) (by lia) fun r' H1 k1 e1=>?_
  have ed1:=h.keep0 k1
  have hx1:=hx.keep h (Ad.m0 k1)
  have y1:=hx1.ob
  walk_at "ww"
  refine ite_both (fun c1=>?_) (fun c1=>?_)
  · walk_at "ww"
    refine c_747 ed1 (by lia) hx1 hm ht fun t' st' H2 k2 e2 l2 ed2=>?_
    walk_at "ww"
    exact q _ t' st' _ (Keep.trans (Ad.m0 k1) (Keep.trans k2 (Ad.m0 Keep.app))) e2 l2 (ed2.keep0 Keep.app)
  · walk_at "ww"
    rw [lX]
    refine ite_both (fun c2=>?_) (fun c2=>?_)
    · walk_at "ww"
      refine c_754 ed1 hp hr (by lia) fun g t' st' H2 k2 e2 l2 ed2=>?_
      walk_at "ww"
      exact q g t' st' _ (Keep.trans (Ad.m0 k1) k2) e2 (by lia) (ed2.up (by lia))
    · walk_at "ww"
      rw [lX]
      refine c_683 ed1 (by lia) ?_
      refine ed1.buE fun pt1 tk1 ct1 b1=>?_
      walk_at "ww"
      refine c_697 ed1 fun H2 k2=>?_
      have ed2:=ed1.keep0 k2
      have hx2:=hx1.keep ed1 (Ad.m0 k2)
      walk_at "ww"
      refine c_711 ed2 hp hr (by lia) fun g H3 k3 ed3=>?_
      have hx3:=hx2.keep ed2 (Ad.m1 k3)
      walk_at "ww"
      refine c_718 (p:=p) ed3 (by simp; lia) hx3.ob hx3.n1 (by lia) fun H4 k4 ed4=>?_
      have hx4:=hx3.keep ed3 (Ad.m1 k4)
      have y4:=hx4.ob
      have tt:((t.take p++t.drop r).take p++X++(t.take p++t.drop r).drop p)=t.take p++X++t.drop r:=by
        walk_at "lst"
      rw [tt] at ed4
      have fin:∀ (H5:Hp) (ρ':Loc) (R:Fl→Loc→Hp→Prop),Keep A.M H4 H5→EdAt H5 A (t.take p++X++t.drop r) st (m+X.length+8)→Outer H5 A xd X→ρ' "buffer" = some (.ref A.bf)→ρ' "low" = some (.int ((p:Int)+1))→ρ' "high" = some (.int ((r:Int)+1))→ρ' "codes" = some (.ref xd)→ρ' "rows" = some .none→ρ' "gone" = some (.ref g)→(∀ ρ2 H2,Q (.ref g) H2→R (.ret (.ref g)) ρ2 H2)→WS (sSeq
                        (sExpr (eMeth (callF (n+5)) (eAttr (eVar "buffer") "markers") "replaced" [(eVar "low"),(eVar "high"),(eBlt "len" [(eVar "codes")])]))
                        (sSeq
                          (sExpr (eFun (callF (n+5)) 732 [(eVar "buffer"),(eVar "high"),(eBlt "len" [(eVar "codes")]),(eBool true)]))
                          (sSeq
                            (sExpr (eFun (callF (n+5)) 725 [(eVar "buffer"),(eVar "low"),(eVar "high")]))
                            (sSeq
                              (sIf (eCmp .IsNot (eVar "rows") eNone)
                                (sSeq
                                  (sExpr (eMeth (callF (n+5)) (eAttr (eVar "buffer") "props") "put_rows" [(eVar "rows")]))
                                  sNil)
                                sNil)
                              (sSeq
                                (sExpr (eFun (callF (n+5)) 704 [(eVar "buffer"),(eVar "low"),(eBin .Add (eVar "low") (eBlt "len" [(eVar "codes")])),(eBin .Sub (eVar "high") (eVar "low"))]))
                                (sSeq
                                  (sRet (eVar "gone"))
                                  sNil)))))) ρ' H5 R:=fun H5 ρ' R k5 ed5 hx5 s1 s2 s3 s4 s5 s6 hR=>by
        refine ed5.buE fun pt5 tk5 ct5 b5=>?_
        have mk5:=ed5.mkk
        have y5:=hx5.ob
        walk_at "ww"
        refine c_481 mk5 ed5.md fun H6 k6=>?_
        have ed6:=ed5.keep0 k6
        have hx6:=hx5.keep ed5 (Ad.m0 k6)
        have y6:=hx6.ob
        walk_at "ww"
        refine c_732 ed6 ?_
        walk_at "ww"
        refine c_725 ed6 ?_
        walk_at "ww"
        rw [lX]
        refine c_704 ed6 (by lia) fun H7 k7 ed7=>?_
        walk_at "ww"
        refine hR _ _ (q g _ _ H7 (Keep.trans (Ad.m0 k1) (Keep.trans (Ad.m0 k2) (Keep.trans (Ad.m1 k3) (Keep.trans (Ad.m1 k4) (Keep.trans k5 (Keep.trans (Ad.m0 k6) (Ad.m2 k7))))))) (.inr ⟨p,r,X,hp,hr,rfl,?_⟩) ?_ (ed7.up (by lia)))
        · congr 1
          lia
        · simp; lia
      have stp:∀ (ρ':Loc) (R:Fl→Loc→Hp→Prop),ρ' "buffer" = some (.ref A.bf)→ρ' "low" = some (.int ((p:Int)+1))→ρ' "high" = some (.int ((r:Int)+1))→ρ' "codes" = some (.ref xd)→ρ' "point" = some (.int pt1)→(∀ H5,Keep A.M H4 H5→EdAt H5 A (t.take p++X++t.drop r) st (m+X.length+8)→Outer H5 A xd X→R .next ρ' H5)→WS (sSeq
                          (sAssign (eBin .Sub (eBin .Add (eVar "point") (eBlt "len" [(eVar "codes")])) (eBin .Sub (eVar "high") (eVar "low"))) (tAttr (eVar "buffer") "point"))
                          sNil) ρ' H4 R:=fun ρ' R s1 s2 s3 s4 s5 hR=>by
        obtain ⟨pt4,tk4,ct4,b4,ed5⟩:=ed4.pt (pt':=pt1+X.length - ((r:Int)+1 - ((p:Int)+1)))
        walk_at "ww"
        try rw [lX]
        have k5:Keep A.M H4 (H4.set A.bf (bufOb A.gp A.mr A.li (pt1+X.length - ((r:Int)+1 - ((p:Int)+1))) (((t.take p++X++t.drop r).length:Int)+1) tk4 ct4)):=Keep.set (by simp [Ad.M])
        exact hR _ k5 ed5 (hx4.keep ed4 k5)
      walk_at "ww"
      refine ite_both (fun c3=>?_) (fun c3=>?_)
      · refine stp _ _ (by walk_at "lk") (by walk_at "lk") (by walk_at "lk") (by walk_at "lk") (by walk_at "lk") fun H5 k5 ed5 hx5=>?_
        repeat first | exact fin H5 _ _ k5 ed5 hx5 (by walk_at "lk") (by walk_at "lk") (by walk_at "lk") (by walk_at "lk") (by walk_at "lk") (by walk_at "lk") (fun ρ2 H2 h=>h) | walk_at "w"
      · repeat first | exact fin H4 _ _ Keep.refl ed4 hx4 (by walk_at "lk") (by walk_at "lk") (by walk_at "lk") (by walk_at "lk") (by walk_at "lk") (by walk_at "lk") (fun ρ2 H2 h=>h) | walk_at "w"
theorem c_769 {n dk:Nat} {d:List Int} {k:Int} {H:Hp} (h:H[dk]?=some (.list (d.map .int))) (hl:d.length≤1000) (hk:0<k) {Q:AV→Hp→Prop} (q:∀ (x:Int) (d':List Int) (H':Hp),Keep [dk] H H'→H'[dk]?=some (.list (d'.map .int))→d'.length≤d.length→0≤x→x<k→Q (.int x) H'):WC (callF (n+1)) 769 [.ref dk,.int k] H Q:=by
  refine run_769 fun ρ r1 r2=>?_
  unfold b_769
  walk_at "ww"
  refine x_neL (m:=[]) (get_app h) (by exact get_new1) ?_
  walk_at "ww"
  cases d with
  | nil=>
    rw [show (!decide (([]:List Int)=[]))=false by simp]
    walk_at "ww"
    exact q 0 [] _ Keep.app (get_app h) (Nat.le_refl _) (Int.le_refl _) hk
  | cons y d=>
    rw [show (!decide ((y::d:List Int)=[]))=true by simp]
    have h':=get_app (t:=[AO.list []]) h
    refine x_ite_t (w_bin (w_pop (w_var r1 ⟨dk,_,rfl,h',w_int ⟨.int y,d.map .int,rfl,h',by simp at hl ⊢; lia,w_var r2 (x_mod (by lia) ?_)⟩⟩)))
    walk_at "ww"
    exact q _ d _ (Keep.trans Keep.app (Keep.set (by walk_at "sm"))) (get_set h') (by walk_at "sm") (Int.fmod_nonneg_of_pos _ hk) (Int.fmod_lt_of_pos _ hk)
theorem c_776 {n dk:Nat} {d:List Int} {H:Hp} (h:H[dk]?=some (.list (d.map .int))) (hl:d.length≤1000) {Q:AV→Hp→Prop} (q:∀ (r:Nat) (X d':List Int) (H':Hp),Keep [dk] H H'→H'[dk]?=some (.list (d'.map .int))→d'.length≤d.length→H[r]?=none→H'[r]?=some (.list (X.map .int))→X.length≤2→Q (.ref r) H'):WC (callF (n+2)) 776 [.ref dk] H Q:=by
  refine run_776 fun ρ r1=>?_
  unfold b_776
  have one:∀ (a:Int) (G:Hp) (l:List EX) (R:List AV→Hp→Prop),Keep [] H G→(∀ r G2,Keep [] G G2→H[r]?=none→G2[r]?=some (.list (([a]:List Int).map .int))→WA l ρ G2 (fun vs H2=>R (.ref r::vs) H2))→WA (eList [eInt a]::l) ρ G R:=fun a G l R k hR=>
    wa_cons (w_listG (wa_cons (w_int (wa_nil ⟨by simp,fun r G2 k2 n2 e2=>hR r G2 k2 (new_back k n2) e2⟩))))
  have two:∀ (a b:Int) (G:Hp) (l:List EX) (R:List AV→Hp→Prop),Keep [] H G→(∀ r G2,Keep [] G G2→H[r]?=none→G2[r]?=some (.list (([a,b]:List Int).map .int))→WA l ρ G2 (fun vs H2=>R (.ref r::vs) H2))→WA (eList [eInt a,eInt b]::l) ρ G R:=fun a b G l R k hR=>
    wa_cons (w_listG (wa_cons (w_int (wa_cons (w_int (wa_nil ⟨by simp,fun r G2 k2 n2 e2=>hR r G2 k2 (new_back k n2) e2⟩))))))
  refine ws_seq (ws_ret (w_idx (w_listG ?_)))
  refine two _ _ _ _ _ Keep.refl fun s0 G0 K0 n0 e0=>?_
  refine one _ _ _ _ K0 fun s1 G1 k1 n1 e1=>?_
  have K1:=Keep.trans K0 k1
  refine one _ _ _ _ K1 fun s2 G2 k2 n2 e2=>?_
  have K2:=Keep.trans K1 k2
  refine two _ _ _ _ _ K2 fun s3 G3 k3 n3 e3=>?_
  have K3:=Keep.trans K2 k3
  refine two _ _ _ _ _ K3 fun s4 G4 k4 n4 e4=>?_
  have K4:=Keep.trans K3 k4
  refine one _ _ _ _ K4 fun s5 G5 k5 n5 e5=>?_
  have K5:=Keep.trans K4 k5
  refine two _ _ _ _ _ K5 fun s6 G6 k6 n6 e6=>?_
  have K6:=Keep.trans K5 k6
  refine one _ _ _ _ K6 fun s7 G7 k7 n7 e7=>?_
  have K7:=Keep.trans K6 k7
  refine one _ _ _ _ K7 fun s8 G8 k8 n8 e8=>?_
  have K8:=Keep.trans K7 k8
  refine one _ _ _ _ K8 fun s9 G9 k9 n9 e9=>wa_nil ⟨by simp,fun tb G10 k10 n10 e10=>?_⟩
  have K9:=Keep.trans K8 k9
  have K10:=Keep.trans K9 k10
  replace e8:=Keep.trans k9 k10 _ _ (by walk_at "sm") e8
  replace e9:=k10 _ _ (by walk_at "sm") e9
  replace e7:=Keep.trans k8 (Keep.trans k9 k10) _ _ (by walk_at "sm") e7
  replace e6:=Keep.trans k7 (Keep.trans k8 (Keep.trans k9 k10)) _ _ (by walk_at "sm") e6
  replace e5:=Keep.trans k6 (Keep.trans k7 (Keep.trans k8 (Keep.trans k9 k10))) _ _ (by walk_at "sm") e5
  replace e4:=Keep.trans k5 (Keep.trans k6 (Keep.trans k7 (Keep.trans k8 (Keep.trans k9 k10)))) _ _ (by walk_at "sm") e4
  replace e3:=Keep.trans k4 (Keep.trans k5 (Keep.trans k6 (Keep.trans k7 (Keep.trans k8 (Keep.trans k9 k10))))) _ _ (by walk_at "sm") e3
  replace e2:=Keep.trans k3 (Keep.trans k4 (Keep.trans k5 (Keep.trans k6 (Keep.trans k7 (Keep.trans k8 (Keep.trans k9 k10)))))) _ _ (by walk_at "sm") e2
  replace e1:=Keep.trans k2 (Keep.trans k3 (Keep.trans k4 (Keep.trans k5 (Keep.trans k6 (Keep.trans k7 (Keep.trans k8 (Keep.trans k9 k10))))))) _ _ (by walk_at "sm") e1
  replace e0:=Keep.trans k1 (Keep.trans k2 (Keep.trans k3 (Keep.trans k4 (Keep.trans k5 (Keep.trans k6 (Keep.trans k7 (Keep.trans k8 (Keep.trans k9 k10)))))))) _ _ (by walk_at "sm") e0
  have hd:=K10 _ _ (by walk_at "sm") h
  have ntb:=new_back K9 n10
  clear k1 k2 k3 k4 k5 k6 k7 k8 k9 k10 K0 K1 K2 K3 K4 K5 K6 K7 K8 K9 n10
  walk_at "ww"
  refine c_769 hd hl (by decide) fun x d' H' kx hd' ld x0 x1=>?_
  have nd:∀ r,H[r]?=none→r≠dk:=fun r h0 e=>by rw [e,h] at h0; cases h0
  have tb':=kx _ _ (by simp; exact nd _ ntb) e10
  have fin:∀ (r:Nat) (X:List Int),pyIdx [AV.ref s0,.ref s1,.ref s2,.ref s3,.ref s4,.ref s5,.ref s6,.ref s7,.ref s8,.ref s9] x=some (.ref r)→H[r]?=none→G10[r]?=some (.list (X.map .int))→X.length≤2→∃ v,idx (AV.ref tb) (AV.int x) H'=some v∧Q v H':=fun r X hp hn he hX=>by
    refine x_idxL tb' (by walk_at "sm") hp ?_
    exact q r X d' H' (Keep.trans (K10.mono (by walk_at "sm")) kx) hd' ld hn (kx _ _ (by simp; exact nd _ hn) he) hX
  have hx:x=0∨x=1∨x=2∨x=3∨x=4∨x=5∨x=6∨x=7∨x=8∨x=9:=by lia
  rcases hx with rfl | rfl | rfl | rfl | rfl | rfl | rfl | rfl | rfl | rfl
  · exact fin s0 _ rfl n0 e0 (by walk_at "sm")
  · exact fin s1 _ rfl n1 e1 (by walk_at "sm")
  · exact fin s2 _ rfl n2 e2 (by walk_at "sm")
  · exact fin s3 _ rfl n3 e3 (by walk_at "sm")
  · exact fin s4 _ rfl n4 e4 (by walk_at "sm")
  · exact fin s5 _ rfl n5 e5 (by walk_at "sm")
  · exact fin s6 _ rfl n6 e6 (by walk_at "sm")
  · exact fin s7 _ rfl n7 e7 (by walk_at "sm")
  · exact fin s8 _ rfl n8 e8 (by walk_at "sm")
  · exact fin s9 _ rfl n9 e9 (by walk_at "sm")
theorem c_783 {n dk k:Nat} {d:List Int} {H:Hp} (h:H[dk]?=some (.list (d.map .int))) (hl:d.length≤1000) (hk:0<k) (hk2:k≤1000) {Q:AV→Hp→Prop} (q:∀ (r:Nat) (X d':List Int) (H':Hp),Keep [dk] H H'→H'[dk]?=some (.list (d'.map .int))→d'.length≤d.length→H[r]?=none→H'[r]?=some (.list (X.map .int))→X.length≤2 * (k - 1)→Q (.ref r) H'):WC (callF (n+3)) 783 [.ref dk,.int k] H Q:=by
  refine run_783 fun ρ r1 r2=>?_
  unfold b_783
  walk_at "ww"
  refine ws_abs (fun H1=>Keep [] H H1∧H1[H.length]?=some (.list (([]:List Int).map .int))) ⟨Keep.app,by exact get_new1⟩ ?_
  rintro H1 ⟨k1,e1⟩
  have nf:H[H.length]?=none:=get_none (Nat.le_refl _)
  generalize H.length=fr at *
  have hd:=k1 _ _ (by walk_at "sm") h
  have nd:∀ r,H[r]?=none→r≠dk:=fun r h0 e=>by rw [e,h] at h0; cases h0
  refine ws_forR1 ?_
  walk_at "ww"
  refine c_769 hd hl (by lia) fun m d' H2 k2 hd' ld m0 m1=>?_
  have e2:=k2 _ _ (by simp; exact nd _ nf) e1
  refine ⟨m,rfl,by lia,fun x ρ' H'=>∃ (fr:Nat) (X d':List Int),ρ' "deck" = some (.ref dk)∧ρ' "found" = some (.ref fr)∧Keep [dk] H H'∧H'[dk]?=some (.list (d'.map .int))∧d'.length≤d.length∧H[fr]?=none∧H'[fr]?=some (.list (X.map .int))∧(X.length:Int)≤2 * x∧x≤m,⟨fr,[],d',by walk_at "lk",by walk_at "lk",Keep.trans (k1.mono (by walk_at "sm")) k2,hd',ld,nf,e2,by simp,m0⟩,?_,?_⟩
  · rintro x ρ' H' hx0 hx1 ⟨fr,X,d',r1,r2,k',hd',ld,nf,e',lX,_⟩
    walk_at "ww"
    refine c_776 hd' (by lia) fun r Y d2 H3 k3 hd3 ld3 n3 e3 lY=>?_
    have e4:=k3 _ _ (by simp; exact nd _ nf) e'
    walk_at "ww"
    have nr:H[H3.length]?=none:=by
      have:H.length≤H3.length:=by
        have a1:=List.getElem?_eq_none_iff.mp nf
        have a2:=lt_get e4
        lia
      exact get_none this
    refine ⟨_,X++Y,d2,by walk_at "lk",by walk_at "lk",Keep.trans k' (Keep.trans k3 Keep.app),get_app hd3,by lia,nr,?_,by simp; lia,by lia⟩
    rw [get_new1,List.map_append]
  · rintro x ρ' H' hx0 hx1 ⟨fr,X,d',r1,r2,k',hd',ld,nf,e',lX,hxm⟩
    walk_at "ww"
    exact q fr X d' H' k' hd' ld nf e' (by lia)
structure DkAt (H:Hp) (A:Ad) (dk:Nat) (d:List Int):Prop where
  ob:H[dk]?=some (.list (d.map .int))
  n1:dk≠A.cl
  n2:dk≠A.rw
  n3:dk≠A.li
  hl:d.length≤1000
theorem DkAt.out {H:Hp} {A:Ad} {dk:Nat} {d:List Int} (h:DkAt H A dk d):Outer H A dk d:=⟨h.ob,h.n1,h.n2⟩
theorem DkAt.keep {H H':Hp} {A:Ad} {dk m:Nat} {d t:List Int} {st:LogSt} (h:DkAt H A dk d) (e:EdAt H A t st m) (k:Keep A.M H H'):DkAt H' A dk d:=⟨(h.out.keep e k).ob,h.n1,h.n2,h.n3,h.hl⟩
theorem DkAt.keep0 {H H':Hp} {A:Ad} {dk:Nat} {d:List Int} (h:DkAt H A dk d) (k:Keep [] H H'):DkAt H' A dk d:=⟨k _ _ (by walk_at "sm") h.ob,h.n1,h.n2,h.n3,h.hl⟩
theorem DkAt.mk' {H H':Hp} {A:Ad} {dk:Nat} {d d':List Int} (h:DkAt H A dk d) (e:H'[dk]?=some (.list (d'.map .int))) (l:d'.length≤d.length):DkAt H' A dk d':=⟨e,h.n1,h.n2,h.n3,by have:=h.hl; lia⟩
theorem EdAt.deck {H H':Hp} {A:Ad} {dk m:Nat} {d t:List Int} {st:LogSt} (h:EdAt H A t st m) (e:DkAt H A dk d) (k:Keep [dk] H H'):EdAt H' A t st m:=by
  refine h.buE fun pt tk ct h1=>?_
  refine h.gaE fun C gs ge h2 h3 h4=>?_
  have g1:=h2.ob
  have hlg:=h.lg
  have hmk:=h.mkk
  have hmd:=h.md
  have hd:=e.ob
  obtain ⟨x,y,z,el⟩:=logA_inst (rw:=A.rw) (st:=st)
  rw [el] at hlg
  refine h.keep k ?_ ?_ ?_ ?_ ?_ ?_ ?_ ?_ <;> simp only [List.mem_singleton]
  · exact ne_tag h1 hd rfl
  · exact ne_tag g1 hd rfl
  · exact e.n1.symm
  · exact ne_tag hmk hd rfl
  · exact ne_tag hmd hd rfl
  · exact e.n3.symm
  · exact ne_tag hlg hd rfl
  · exact e.n2.symm
theorem Ad.m3 {A:Ad} {dk:Nat} {H H':Hp} (k:Keep A.M H H'):Keep (dk::A.M) H H':=k.mono (by intro j h; exact List.mem_cons_of_mem _ h)
theorem Ad.m4 {A:Ad} {dk:Nat} {H H':Hp} (k:Keep [dk] H H'):Keep (dk::A.M) H H':=k.mono (by walk_at "sm")
theorem c_804 {n m dk:Nat} {A:Ad} {t d:List Int} {st:LogSt} {H:Hp} (h:EdAt H A t st m) (hd:DkAt H A dk d) (hm:m+30≤300000) (ht:t.length+30≤300000) {Q:AV→Hp→Prop} (q:∀ t' st' d' H',Keep (dk::A.M) H H'→EditR A.on t st t' st'→t'.length≤t.length+6→EdAt H' A t' st' (m+15)→DkAt H' A dk d'→Q .none H'):WC (callF (n+7)) 804 [.ref dk,.ref A.bf] H Q:=by
  refine run_804 fun ρ r1 r2=>?_
  refine h.buE fun pt tk ct h1=>?_
  unfold b_804
  walk_at "ww"
  refine c_573 h ?_
  walk_at "ww"
  refine c_769 hd.ob hd.hl (by lia) fun s d1 H1 k1 g1 l1 s0 s1=>?_
  have ed1:=h.deck hd k1
  have dk1:=hd.mk' g1 l1
  walk_at "ww"
  refine c_769 dk1.ob dk1.hl (by lia) fun e d2 H2 k2 g2 l2 e0 e1=>?_
  have ed2:=ed1.deck dk1 k2
  have dk2:=dk1.mk' g2 l2
  walk_at "ww"
  refine c_769 dk2.ob dk2.hl (by lia) fun w d3 H3 k3 g3 l3 w0 w1=>?_
  have ed3:=ed2.deck dk2 k3
  have dk3:=dk2.mk' g3 l3
  walk_at "ww"
  refine c_783 (k:=4) dk3.ob dk3.hl (by lia) (by lia) fun xd X d4 H4 k4 g4 l4 nx ex lX=>?_
  have ed4:=ed3.deck dk3 k4
  have dk4:=dk3.mk' g4 l4
  walk_at "ww"
  have hx:Outer H4 A xd X:=by
    refine ed3.gaE fun C gs ge c1 c2 c3=>?_
    obtain ⟨rv,c4,c5⟩:=ed3.rw
    exact ⟨ex,(fun e=>by rw [e,c1.ce] at nx; cases nx),(fun e=>by rw [e,c4] at nx; cases nx)⟩
  have K4:Keep [dk] H H4:=Keep.trans k1 (Keep.trans k2 (Keep.trans k3 k4))
  have lX:X.length≤6:=lX
  have E1:1+s=((s.toNat:Nat):Int)+1:=by lia
  have E2:min ((t.length:Int)+1) (1+s+e)=((min t.length (s.toNat+e.toNat):Nat):Int)+1:=by lia
  have ed5:=ed4.keep0 (Keep.app (t:=[AO.tup [AV.int w,AV.ref xd]]))
  have dk5:=dk4.keep0 (Keep.app (t:=[AO.tup [AV.int w,AV.ref xd]]))
  have hx5:=hx.keep ed4 (Ad.m0 (Keep.app (t:=[AO.tup [AV.int w,AV.ref xd]])))
  have K5:Keep (dk::A.M) H (H4++[AO.tup [AV.int w,AV.ref xd]]):=Keep.trans (Ad.m4 K4) Keep.app
  refine ite_both (fun c1=>?_) (fun c1=>?_)
  · walk_at "ww"
    rw [E1]
    refine c_747 ed5 (by lia) hx5 (by lia) (by lia) fun t' st' H' k e l ed=>?_
    walk_at "ww"
    exact q t' st' d4 H' (Keep.trans K5 (Ad.m3 k)) e (by lia) (ed.up (by lia)) (dk5.keep ed5 k)
  · walk_at "ww"
    refine ite_both (fun c2=>?_) (fun c2=>?_)
    · walk_at "ww"
      rw [E2,E1]
      refine c_754 ed5 (by lia) (by lia) (by lia) fun g t' st' H' k e l ed=>?_
      walk_at "ww"
      exact q t' st' d4 H' (Keep.trans K5 (Ad.m3 k)) e (by lia) (ed.up (by lia)) (dk5.keep ed5 k)
    · walk_at "ww"
      rw [E2,E1]
      refine c_762 ed5 (by lia) (by lia) hx5 (by lia) (by lia) fun g t' st' H' k e l ed=>?_
      walk_at "ww"
      exact q t' st' d4 H' (Keep.trans K5 (Ad.m3 k)) e (by lia) (ed.up (by lia)) (dk5.keep ed5 k)
theorem w_str {s:Str} {ρ:Loc} {H:Hp} {Q:AV→Hp→Prop} (q:Q (.str s) H):W (eStr s) ρ H Q:=⟨_,_,rfl,q⟩
theorem c_341 {n k xd:Nat} {H:Hp} (h:H[k]?=some (.inst 414 [])) (hx:H[xd]?=some (.list [])) {Q:AV→Hp→Prop} (q:∀ cl H',Keep [k] H H'→H[cl]?=none→GapAt H' k cl (List.replicate 8 0) 0 8→Q .none H'):WC (callF (n+1)) 341 [.ref k,.ref xd,.int 8] H Q:=by
  refine run_341 fun ρ r1 r2 r3=>?_
  have nk:xd≠k:=ne_tag hx h rfl
  unfold b_341
  walk_at "ww"
  refine q _ _ (by walk_at "kp") ?_ ⟨get_set (by walk_at "hp"),?_,by lia,by simp,by simp⟩
  · exact get_none (by simp <;> lia)
  · refine get_set_ne (get_set_ne (get_set_ne ?_ ?_) ?_) ?_
    · rw [get_new1]; rfl
    · exact (len_ne (by walk_at "hp")).symm
    · exact (len_ne (by walk_at "hp")).symm
    · exact (len_ne (by walk_at "hp")).symm
theorem c_432 {n k:Nat} {H:Hp} (h:H[k]?=some (.inst 484 [])) {Q:AV→Hp→Prop} (q:∀ md H',Keep [k] H H'→H[md]?=none→H'[md]?=some .dict0→H'[k]?=some (.inst 484 [("rows",.ref md)])→Q .none H'):WC (callF (n+1)) 432 [.ref k] H Q:=by
  refine run_432 fun ρ r1=>?_
  unfold b_432
  walk_at "ww"
  refine q _ _ (by walk_at "kp") (get_none (Nat.le_refl _)) (get_set_ne get_new1 (len_ne h).symm) (get_set (by walk_at "hp"))
theorem fput_new {x:Str} {v:AV}:∀ {fs:List (Str×AV)},fget x fs=none→fput x v fs=fs++[(x,v)]
  | [],_=>rfl
  | p::r,h=>by
    obtain ⟨y,a⟩:=p
    rw [fget_cons] at h
    split at h
    · cases h
    · rename_i q
      unfold fput
      rw [if_neg q,fput_new h]; rfl
theorem ws_put {c:EX} {x:Str} {rest:SX} {ρ:Loc} {H:Hp} {Q:Fl→Loc→Hp→Prop} {k cls:Nat} {fs:List (Str×AV)} {v:AV} (rs:ρ "self" = some (.ref k)) (h:H[k]?=some (.inst cls fs)) (hc:∀ R:AV→Hp→Prop,R v H→W c ρ H R) (hf:fget x fs=none) (ok:(atab.any (fun q=>q.1 == cls && q.2.contains x) && fs.length<900)=true)
    (next:∀ H',Keep [k] H H'→H.length=H'.length→H'[k]?=some (.inst cls (fs++[(x,v)]))→WS rest ρ H' Q):WS (sSeq (sAssign c (tAttr (eVar "self") x)) rest) ρ H Q:=by
  refine ws_seq (ws_assign (hc _ (wt_attr (w_var rs (x_tattr h ok ?_)))))
  rw [fput_new hf]
  exact next _ (Keep.set (by walk_at "sm")) (by walk_at "sm") (get_set h)
theorem c_538 {n k:Nat} {H:Hp} (h:H[k]?=some (.inst 625 [])) {Q:AV→Hp→Prop} (q:∀ gp cl mr md li H',Keep [k] H H'→H[gp]?=none→H[cl]?=none→H[mr]?=none→H[md]?=none→H[li]?=none→cl≠li→H'[k]?=some (bufOb gp mr li 1 1 1 1)→GapAt H' gp cl (List.replicate 8 0) 0 8→H'[mr]?=some (.inst 484 [("rows",.ref md)])→H'[md]?=some .dict0→H'[li]?=some (.list [])→Q .none H'):WC (callF (n+2)) 538 [.ref k,.int 1,.str "b"] H Q:=by
  refine run_538 fun ρ r1 r2 r3 r4=>?_
  unfold b_538
  refine ws_seq (ws_assign (w_var r2 (wt_attr (w_var r1 (x_tattr h (by rfl) ?_)))))
  refine ws_seq (ws_assign (w_var r3 (wt_attr (w_var r1 (x_tattr (get_set h) (by rfl) ?_)))))
  rw [List.set_set]
  have y0:=get_set (o:=.inst 625 [("number",.int 1),("name",.str "b")]) h
  have k0:Keep [k] H (H.set k (.inst 625 [("number",.int 1),("name",.str "b")])):=Keep.set (by walk_at "sm")
  refine ws_abs (fun H1=>Keep [k] H H1∧H.length=H1.length∧H1[k]?=some (.inst 625 [("number",.int 1),("name",.str "b")])) ⟨k0,by simp,y0⟩ ?_
  clear k0 y0
  rintro H0 ⟨k0,l0,y0⟩
  refine ws_seq (ws_assign (w_newG (wa_cons (w_listG (wa_nil ⟨by simp,fun xd H1 k1 n1 e1=>wa_cons (w_var r4 (wa_nil ⟨rfl,fun gp H2 k2 n2 e2=>c_341 e2 (k2 _ _ (by walk_at "sm") e1) fun cl H3 k3 n3 g3=>⟨rfl,?_⟩⟩))⟩)))))
  have K3:Keep [] H0 H3:=((Keep.trans k1 k2).mono (N:=[gp]) (by walk_at "sm")).trans k3 |>.drop (new_back k1 n2)
  have ngp:=new_back k1 n2
  have ncl:=new_back (Keep.trans k1 k2) n3
  have y3:=K3 _ _ (by walk_at "sm") y0
  clear k1 n1 e1 k2 n2 e2 k3 n3
  refine wt_attr (w_var r1 (x_tattr y3 (by rfl) ?_))
  have hkg:k≠gp:=fun e=>by rw [e,ngp] at y0; cases y0
  have hkc:k≠cl:=fun e=>by rw [e,ncl] at y0; cases y0
  refine ws_abs (fun H1=>Keep [k] H0 H1∧H3.length=H1.length∧H1[k]?=some (.inst 625 [("number",.int 1),("name",.str "b"),("text",.ref gp)])∧GapAt H1 gp cl (List.replicate 8 0) 0 8) ⟨Keep.trans (K3.mono (by walk_at "sm")) (Keep.set (by walk_at "sm")),by simp,get_set y3,g3.keep (Keep.set (M:=[k]) (by walk_at "sm")) (by simp [hkg.symm]) (by simp [hkc.symm])⟩ ?_
  rintro H4 ⟨k4,l4,y4,g4⟩
  refine ws_seq (ws_assign (w_newG (wa_nil ⟨rfl,fun mr H5 k5 n5 e5=>c_432 e5 fun md H6 k6 n6 e6 e7=>⟨rfl,?_⟩⟩)))
  have K6:Keep [] H4 H6:=(k5.mono (N:=[mr]) (by walk_at "sm")).trans k6 |>.drop n5
  have nmd:=new_back k5 n6
  have y6:=K6 _ _ (by walk_at "sm") y4
  have g6:=g4.keep K6 (by walk_at "sm") (by walk_at "sm")
  have hkm:k≠mr:=fun e=>by rw [e,n5] at y4; cases y4
  have hkd:k≠md:=fun e=>by rw [e,nmd] at y4; cases y4
  clear k5 n6 e5 k6
  refine wt_attr (w_var r1 (x_tattr y6 (by rfl) ?_))
  refine ws_abs (fun H1=>Keep [k] H4 H1∧H6.length=H1.length∧H1[k]?=some (.inst 625 [("number",.int 1),("name",.str "b"),("text",.ref gp),("markers",.ref mr)])∧GapAt H1 gp cl (List.replicate 8 0) 0 8∧H1[md]?=some .dict0∧H1[mr]?=some (.inst 484 [("rows",.ref md)])) ⟨Keep.trans (K6.mono (by walk_at "sm")) (Keep.set (by walk_at "sm")),by simp,get_set y6,g6.keep (Keep.set (M:=[k]) (by walk_at "sm")) (by simp [hkg.symm]) (by simp [hkc.symm]),get_set_ne e6 hkd,get_set_ne e7 hkm⟩ ?_
  rintro H7 ⟨k7,l7,y7,g7,e8,e9⟩
  refine ws_put r1 y7 (fun R h=>w_int h) (by rfl) (by rfl) fun H8 k8 l8 y8=>?_
  refine ws_put r1 y8 (fun R h=>w_int h) (by rfl) (by rfl) fun H9 k9 l9 y9=>?_
  refine ws_put r1 y9 (fun R h=>w_int h) (by rfl) (by rfl) fun Ha ka la ya=>?_
  refine ws_put r1 ya (fun R h=>w_none h) (by rfl) (by rfl) fun Hb kb lb yb=>?_
  refine ws_put r1 yb (fun R h=>w_bool h) (by rfl) (by rfl) fun Hc kc lc yc=>?_
  refine ws_put r1 yc (fun R h=>w_bool h) (by rfl) (by rfl) fun Hd kd ld yd=>?_
  refine ws_put r1 yd (fun R h=>w_int h) (by rfl) (by rfl) fun He ke le ye=>?_
  refine ws_put r1 ye (fun R h=>w_int h) (by rfl) (by rfl) fun Hf kf lf yf=>?_
  refine ws_put r1 yf (fun R h=>w_int h) (by rfl) (by rfl) fun Hg kg lg yg=>?_
  have K1:Keep [k] H7 Hg:=Keep.trans k8 (Keep.trans k9 (Keep.trans ka (Keep.trans kb (Keep.trans kc (Keep.trans kd (Keep.trans ke (Keep.trans kf kg)))))))
  have L1:H7.length=Hg.length:=by lia
  clear k8 k9 ka kb kc kd ke kf kg l8 l9 la lb lc ld le lf lg y8 y9 ya yb yc yd ye yf
  refine ws_seq (ws_assign (w_listG (wa_nil ⟨by simp,fun li Hh kh nh eh=>wt_attr (w_var r1 (x_tattr (kh _ _ (by walk_at "sm") yg) (by rfl) ?_))⟩)))
  rw [fput_new (by rfl)]
  have yh:=get_set (o:=.inst 625 (([("number",.int 1),("name",.str "b"),("text",.ref gp),("markers",.ref mr),("point",.int 1),("begv",.int 1),("zv",.int 1),("mark",.none),("is_live",.bool true),("is_read_only",.bool false),("ticks",.int 1),("codes_ticks",.int 1),("saved_ticks",.int 1)]:List (Str×AV))++[(("listeners" : Str),AV.ref li)])) (kh _ _ (by walk_at "sm") yg)
  refine ws_abs (fun H1=>Keep [k] Hh H1∧H1[k]?=some (.inst 625 (([("number",.int 1),("name",.str "b"),("text",.ref gp),("markers",.ref mr),("point",.int 1),("begv",.int 1),("zv",.int 1),("mark",.none),("is_live",.bool true),("is_read_only",.bool false),("ticks",.int 1),("codes_ticks",.int 1),("saved_ticks",.int 1)]:List (Str×AV))++[(("listeners" : Str),AV.ref li)]))) ⟨Keep.set (by walk_at "sm"),yh⟩ ?_
  rintro H8 ⟨k8,y8⟩
  refine ws_put r1 y8 (fun R h=>w_none h) (by rfl) (by rfl) fun H9 k9 l9 y9=>?_
  refine ws_put r1 y9 (fun R h=>w_none h) (by rfl) (by rfl) fun Ha ka la ya=>?_
  refine ws_put r1 ya (fun R h=>w_none h) (by rfl) (by rfl) fun Hb kb lb yb=>?_
  refine ws_put r1 yb (fun R h=>w_none h) (by rfl) (by rfl) fun Hc kc lc yc=>?_
  refine ws_put r1 yc (fun R h=>w_none h) (by rfl) (by rfl) fun Hd kd ld yd=>?_
  refine ws_put r1 yd (fun R h=>w_none h) (by rfl) (by rfl) fun He ke le ye=>ws_nil ?_
  have K2:Keep [k] Hh He:=Keep.trans k8 (Keep.trans k9 (Keep.trans ka (Keep.trans kb (Keep.trans kc (Keep.trans kd ke)))))
  clear k8 k9 ka kb kc kd ke l9 la lb lc ld le y8 y9 ya yb yc yd yh
  have K3':=keep_len K3
  have K6':=keep_len K6
  have a1:=List.getElem?_eq_none_iff.mp ngp
  have a2:=List.getElem?_eq_none_iff.mp ncl
  have a3:=List.getElem?_eq_none_iff.mp n5
  have a4:=List.getElem?_eq_none_iff.mp nmd
  have a5:=List.getElem?_eq_none_iff.mp nh
  have gg:=g7.keep K1 (by simp [hkg.symm]) (by simp [hkc.symm])
  have ncl2:cl≠li:=fun e=>by have:=gg.ce; rw [e,nh] at this; cases this
  have hli:k≠li:=fun e=>by rw [e,nh] at yg; cases yg
  have KK:Keep [k] H He:=Keep.trans k0 (Keep.trans k4 (Keep.trans k7 (Keep.trans K1 (Keep.trans (kh.mono (by walk_at "sm")) K2))))
  have K78:Keep [k] H7 He:=Keep.trans K1 (Keep.trans (kh.mono (by walk_at "sm")) K2)
  exact q gp cl mr md li He KK (get_none (by lia)) (get_none (by lia)) (get_none (by lia)) (get_none (by lia)) (get_none (by lia)) ncl2 ye (g7.keep K78 (by simp [hkg.symm]) (by simp [hkc.symm])) (K78 _ _ (by simp [hkm.symm]) e9) (K78 _ _ (by simp [hkd.symm]) e8) (K2 _ _ (by simp [hli.symm]) eh)
noncomputable def Stretch (L t:List Int):LogSt→Prop
  | none=>t=L
  | some (b,e,g)=>∃ P N O S:List Int,t=P++(N++S)∧L=P++(O++S)∧b=P.length+1∧e=P.length+N.length+1∧g=N.length - O.length
theorem len_cut {Y:List Int} {k:Nat} (h:k≤Y.length):(Y.take k).length=k:=by rw [List.length_take,Nat.min_eq_left h]
theorem stretch_step {L t t':List Int} {st st':LogSt} (h:Stretch L t st) (e:EditR true t st t' st'):Stretch L t' st':=by
  rcases e with ⟨rfl,rfl⟩ | ⟨p,r,X,hp,hr,rfl,rfl⟩
  · exact h
  cases st with
  | none=>
    have h:t=L:=h
    subst h
    refine ⟨t.take p,X,(t.take r).drop p,t.drop r,List.append_assoc ..,?_,?_,?_,?_⟩
    · have e1:t.take p=(t.take r).take p:=by rw [List.take_take,Nat.min_eq_left hp]
      rw [e1,← List.append_assoc,List.take_append_drop,List.take_append_drop]
    · rw [len_cut (Nat.le_trans hp hr)]
    · rw [len_cut (Nat.le_trans hp hr)]; exact Int.add_right_comm ..
    · rw [List.length_drop,len_cut hr]; lia
  | some q=>
    obtain ⟨b,en,g⟩:=q
    obtain ⟨P,N,O,S,rfl,rfl,rfl,rfl,rfl⟩:=h
    have hu:∀ b en g:Int,logUp' true (some (b,en,g)) ((p:Int)+1) ((p:Int)+1+X.length) ((r:Int) - p)=some (min b ((p:Int)+1),if en ≥ (p:Int)+1+((r:Int) - p) then en+((p:Int)+1+X.length - ((p:Int)+1) - ((r:Int) - p)) else (p:Int)+1+X.length,g+((p:Int)+1+X.length - ((p:Int)+1) - ((r:Int) - p))):=fun _ _ _=>rfl
    rw [hu]
    clear hu
    obtain ⟨k,hk⟩:∃ k,k=min P.length p:=⟨_,rfl⟩
    have kP:k≤P.length:=hk ▸ Nat.min_le_left _ _
    have kp:k≤p:=hk ▸ Nat.min_le_right _ _
    have eb:min ((P.length:Int)+1) ((p:Int)+1)=(P.take k).length+1:=by rw [len_cut kP]; clear hp hr kP kp; lia
    have tp:(P++(N++S)).take p=P.take k++((P++(N++S)).take p).drop k:=by
      have e1:P.take k=((P++(N++S)).take p).take k:=by rw [List.take_take,Nat.min_eq_left kp,List.take_append_of_le_length kP]
      rw [e1,List.take_append_drop]
    have lt:((P++(N++S)).take p).length=p:=len_cut (Nat.le_trans hp hr)
    have ld:(((P++(N++S)).take p).drop k).length=p - k:=by rw [List.length_drop,lt]
    by_cases c:r≤P.length+N.length
    · have hd:(P++(N++S)).drop r=(P++N).drop r++S:=by rw [← List.append_assoc,List.drop_append_of_le_length (by rw [List.length_append]; exact c)]
      have l1:((P++N).drop r).length=P.length+N.length - r:=by rw [List.length_drop,List.length_append]
      rw [if_pos (by clear hk eb kP kp lt ld l1 hr hp; lia),eb]
      refine ⟨P.take k,((P++(N++S)).take p).drop k++(X++(P++N).drop r),P.drop k++O,S,?_,?_,rfl,?_,?_⟩
      · rw [hd]; conv=>lhs; rw [tp]
        simp only [List.append_assoc]
      · simp only [← List.append_assoc]; rw [List.take_append_drop]
      · rw [List.length_append,List.length_append,ld,l1,len_cut kP]; clear hk eb lt ld l1 hr tp hd; lia
      · rw [List.length_append,List.length_append,List.length_append,ld,l1,List.length_drop]; clear hk eb lt ld l1 hr tp hd; lia
    · obtain ⟨S1,S2,rfl,eS⟩:=split_at (X:=S) (p:=r - (P.length+N.length)) (by rw [List.length_append,List.length_append] at hr; clear hk eb kP kp lt ld hp tp; lia)
      have er:r=P.length+(N.length+S1.length):=by clear hk eb kP kp lt ld hp tp hr; lia
      have hd:(P++(N++(S1++S2))).drop r=S2:=by rw [er,List.drop_length_add_append,List.drop_length_add_append,List.drop_left' rfl]
      rw [if_neg (by clear hk eb kP kp lt ld hr hp er eS hd; lia),eb]
      refine ⟨P.take k,((P++(N++(S1++S2))).take p).drop k++X,P.drop k++(O++S1),S2,?_,?_,rfl,?_,?_⟩
      · rw [hd]; conv=>lhs; rw [tp]
        simp only [List.append_assoc]
      · simp only [← List.append_assoc]; rw [List.take_append_drop]
      · rw [List.length_append,ld,len_cut kP]; clear hk eb lt ld hr tp hd er eS; lia
      · rw [List.length_append,List.length_append,List.length_append,ld,List.length_drop]; clear hk eb lt ld hr tp hd eS; lia
theorem Stretch.facts {L t:List Int} {b e g:Int} (h:Stretch L t (some (b,e,g))):1≤b∧b≤e∧b≤e - g:=by
  obtain ⟨P,N,O,S,rfl,rfl,rfl,rfl,rfl⟩:=h
  lia
theorem split_three (P X S:List Int):∃ A B,A.length=P.count 10∧(∀ Y,(splitL (P++Y++S)).take (P.count 10)=A∧(splitL (P++Y++S)).drop (P.count 10+(Y.count 10+1))=B)∧P.count 10+(X.count 10+1)≤(splitL (P++X++S)).length:=by
  obtain ⟨A,l,a1,a2,a3⟩:=split_app P
  obtain ⟨m,B,s1,s2⟩:=split_cons S
  have key:∀ Y,∃ T,splitL (P++Y++S)=A++T∧T.drop (Y.count 10+1)=B∧T.length=Y.count 10+1+B.length:=fun Y=>by
    obtain ⟨AX,lX,x1,x2,x3⟩:=split_app Y
    have hx:=x3 S m B s1
    cases AX with
    | nil=>
      have hc:Y.count 10=0:=by rw [← x2]; rfl
      refine ⟨(l++(lX++m))::B,?_,by rw [hc]; rfl,by simp [hc]; lia⟩
      rw [List.append_assoc,a3 _ _ _ hx]
    | cons f AX=>
      have hc:Y.count 10=AX.length+1:=by rw [← x2]; rfl
      refine ⟨(l++f)::(AX++(lX++m)::B),?_,?_,by simp [hc]; lia⟩
      · rw [List.append_assoc,a3 _ _ _ hx]; rfl
      · rw [hc,List.drop_succ_cons,List.drop_append,List.drop_of_length_le (by lia),List.nil_append]
        rw [show AX.length+1 - AX.length=1 by lia]; rfl
  refine ⟨A,B,a2,fun Y=>?_,?_⟩
  · obtain ⟨T,t1,t2,t3⟩:=key Y
    rw [t1]
    refine ⟨by rw [← a2,List.take_left' rfl],?_⟩
    rw [← a2,← List.drop_drop,List.drop_left' rfl]
    exact t2
  · obtain ⟨T,t1,t2,t3⟩:=key X
    rw [t1,List.length_append,a2,t3]; lia
theorem cut_of {L t:List Int} {b e g:Int} (h:Stretch L t (some (b,e,g))):Cut (splitL L) (splitL t) ((t.take (b - 1).toNat).count 10) ((((L.take (b - 1+(e - b - g)).toNat).drop (b - 1).toNat).count 10)+1) ((((t.take (e - 1).toNat).drop (b - 1).toNat).count 10)+1):=by
  obtain ⟨P,N,O,S,rfl,rfl,rfl,rfl,rfl⟩:=h
  have a1:((P.length:Int)+1 - 1).toNat=P.length:=by lia
  have a2:((P.length:Int)+1 - 1+((P.length:Int)+N.length+1 - ((P.length:Int)+1) - ((N.length:Int) - O.length))).toNat=P.length+O.length:=by lia
  have a3:((P.length:Int)+N.length+1 - 1).toNat=P.length+N.length:=by lia
  rw [a1,a2,a3,List.take_left' rfl,List.take_length_add_append,List.take_length_add_append,List.drop_left' rfl,List.drop_left' rfl,List.take_left' rfl,List.take_left' rfl]
  obtain ⟨A,B,x1,x2,x3⟩:=split_three P O S
  obtain ⟨o1,o2⟩:=x2 O
  obtain ⟨n1,n2⟩:=x2 N
  obtain ⟨_,_,_,_,y3⟩:=split_three P N S
  rw [← List.append_assoc,← List.append_assoc]
  exact ⟨by rw [o1,n1],by rw [o2,n2],x3,y3⟩
theorem eqD_of {H:Hp} {a b:Nat} {xs ys:List AV} {ds:List Dat} (ha:H[a]?=some (.list xs)) (hb:H[b]?=some (.list ys)) (h1:datAll (datOf H 7) xs=some ds) (h2:datAll (datOf H 7) ys=some ds):eqD H (.ref a) (.ref b)=some true:=by
  have e1:datOf H 8 (.ref a)=some (.list ds):=by
    show datRef (datOf H 7) H[a]?=_
    rw [ha]
    show (datAll (datOf H 7) xs).map Dat.list=_
    rw [h1]; rfl
  have e2:datOf H 8 (.ref b)=some (.list ds):=by
    show datRef (datOf H 7) H[b]?=_
    rw [hb]
    show (datAll (datOf H 7) ys).map Dat.list=_
    rw [h2]; rfl
  unfold eqD
  rw [e1,e2]
  simp
theorem x_neT {a b:AV} {H:Hp} {Q:Bool→Prop} (h:eqD H a b=some true) (q:Q false):∃ c,cmpop .NotEq a b H=some c∧Q c:=⟨_,map_e h,q⟩
theorem x_eqT {a b:AV} {H:Hp} {Q:Bool→Prop} (h:eqD H a b=some true) (q:Q true):∃ c,cmpop .Eq a b H=some c∧Q c:=⟨_,h,q⟩
theorem datAll_els {α:Type} {H:Hp} {n:Nat} {P:AV→α→Prop} {f:α→Dat} (h:∀ v l,P v l→datOf H n v=some (f l)):∀ {xs:List AV} {ls:List α},Els P xs ls→datAll (datOf H n) xs=some (ls.map f)
  | [],[],_=>rfl
  | [],_::_,h=>by cases h.1
  | _::_,[],h=>by cases h.1
  | x::xs,l::ls,e=>by
    have h1:=h _ _ (e.2 0 x l rfl rfl)
    have h2:Els P xs ls:=⟨by have:=e.1; simpa using this,fun i y m h1 h2=>e.2 (i+1) y m (by simpa using h1) (by simpa using h2)⟩
    rw [datAll,datAll_els h h2,h1]; rfl
noncomputable def faceD (fs:List (List Int)):Dat:=.list (fs.map fun l=>.list (l.map .int))
theorem dat_face {F:Fz} {H:Hp} {n:Nat} {v:AV} {fs:List (List Int)} (k:Le F H) (h:FaceV F v fs):datOf H (n+2) v=some (faceD fs):=by
  obtain ⟨r,xs,rfl,h1,h2⟩:=h
  show datRef (datOf H (n+1)) H[r]?=_
  rw [k _ _ h1]
  show (datAll (datOf H (n+1)) xs).map Dat.list=_
  rw [dat_lists (h2.imp fun _ _ h=>h.mono k.fle)]; rfl
theorem eq_faces {F:Fz} {H:Hp} {a b:Nat} {xs ys:List AV} {l:List (List (List Int))} (k:Le F H) (ha:H[a]?=some (.list xs)) (hb:H[b]?=some (.list ys)) (h1:Els (FaceV F) xs l) (h2:Els (FaceV F) ys l):eqD H (.ref a) (.ref b)=some true:=
  eqD_of ha hb (datAll_els (n:=7) (f:=faceD) (fun v l h=>dat_face (n:=5) k h) h1) (datAll_els (n:=7) (f:=faceD) (fun v l h=>dat_face (n:=5) k h) h2)
theorem eq_states {F:Fz} {H:Hp} {a b:Nat} {xs ys:List AV} {l:List (Int×Int)} (k:Le F H) (ha:H[a]?=some (.list xs)) (hb:H[b]?=some (.list ys)) (h1:Els (PairV F) xs l) (h2:Els (PairV F) ys l):eqD H (.ref a) (.ref b)=some true:=by
  have key:∀ v (p:Int×Int),PairV F v p→datOf H 7 v=some (Dat.tuple [.int p.1,.int p.2]):=fun v p h=>by
    obtain ⟨r,rfl,hr⟩:=h
    exact dat_pair (n:=6) (k _ _ hr)
  exact eqD_of ha hb (datAll_els key h1) (datAll_els key h2)
theorem eq_kept {F:Fz} {H:Hp} {a b:Nat} {xs:List AV} (k:Le F H) (ha:H[a]?=some (.list xs)) (hb:H[b]?=some (.list xs)) (h:∀ v∈xs,v=.none∨∃ fs,FaceV F v fs):eqD H (.ref a) (.ref b)=some true:=by
  have key:∀ (ys:List AV),(∀ v∈ys,v=.none∨∃ fs,FaceV F v fs)→∃ ds,datAll (datOf H 7) ys=some ds:=by
    intro ys
    induction ys with
    | nil=>intro _; exact ⟨[],rfl⟩
    | cons y ys ih=>
      intro h
      obtain ⟨ds,e⟩:=ih fun v hv=>h v (List.mem_cons_of_mem _ hv)
      have:∃ d,datOf H 7 y=some d:=by
        rcases h y (by walk_at "sm") with rfl | ⟨fs,hf⟩
        · exact ⟨_,rfl⟩
        · exact ⟨_,dat_face (n:=5) k hf⟩
      obtain ⟨d,e2⟩:=this
      exact ⟨d::ds,bind_e e2 (by rw [e]; rfl)⟩
  obtain ⟨ds,e⟩:=key xs h
  exact eqD_of ha hb e e
structure LW (M:List Nat) (H:Hp) (A:Ad) (dk k ss ff el:Nat) (d t L:List Int) (st:LogSt) (fv:List AV) (m:Nat):Prop where
  dom:Dom M H
  ed:EdAt H A t st m
  de:DkAt H A dk d
  lk:LockAt (stl M H) H k ss ff (splitL L) fv
  el:stl M H el=some (.list (L.map .int))
  mm:∀ j∈dk::A.M,j∈M
  mK:k∈M
  ms:ss∈M
  mf:ff∈M
  f1:ff≠A.cl
  f2:ff≠A.rw
  f3:ff≠A.li
  f4:ff≠dk
section
variable {M:List Nat} {H H':Hp} {A:Ad} {dk k ss ff el:Nat} {d d' t t' L:List Int} {st st':LogSt} {fv fv':List AV} {m m':Nat}
theorem LW.keep0 (h:LW M H A dk k ss ff el d t L st fv m) (K:Keep [] H H'):LW M H' A dk k ss ff el d t L st fv m:=
  have mo:FLe (stl M H) (stl M H'):=stl_mono K (by walk_at "sm") (fun j h=>.inl h)
  { h with dom:=h.dom.keep0 K,ed:=h.ed.keep0 K,de:=h.de.keep0 K,lk:=h.lk.mono mo (fun _ e=>K _ _ (by walk_at "sm") e) (fun _ e=>K _ _ (by walk_at "sm") e) (fun _ e=>K _ _ (by walk_at "sm") e),el:=mo _ _ h.el }
theorem LW.edit (h:LW M H A dk k ss ff el d t L st fv m) (K:Keep (dk::A.M) H H') (e:EdAt H' A t' st' m') (f:DkAt H' A dk d'):LW M H' A dk k ss ff el d' t' L st' fv m':=by
  have mo:FLe (stl M H) (stl M H'):=stl_mono K (fun j q=>.inl (h.mm j q)) (fun j h=>.inl h)
  refine h.lk.elim fun sg rl sl n rv sv h1 h2 h3 _ _ _ _ _=>?_
  refine h.ed.buE fun pt tk ct b1=>?_
  refine h.ed.gaE fun C gs ge b2 _ _=>?_
  have b3:=b2.ob
  have b4:=b2.ce
  have b5:=h.ed.lg
  obtain ⟨rv',b6,_⟩:=h.ed.rw
  have b7:=h.de.ob
  obtain ⟨x,y,z,eq⟩:=logA_inst (rw:=A.rw) (st:=st)
  rw [eq] at b5
  refine e.buE fun pt' tk' ct' c1=>?_
  refine e.gaE fun C' gs' ge' c2 _ _=>?_
  have c5:=e.lg
  obtain ⟨rv2,c6,_⟩:=e.rw
  obtain ⟨x',y',z',eq'⟩:=logA_inst (rw:=A.rw) (st:=st')
  rw [eq'] at c5
  have nk:k ∉ dk::A.M:=by
    simp [Ad.M]
    exact ⟨ne_tag h1 b7 rfl,ne_tag h1 b1 rfl,ne_tag h1 b3 rfl,ne_tag h1 b4 rfl,ne_tag h1 b5 rfl,ne_tag h1 b6 rfl⟩
  have ns:ss ∉ dk::A.M:=by
    simp [Ad.M]
    exact ⟨ne_tag h2 b7 rfl,ne_tag h2 b1 rfl,ne_tag h2 b3 rfl,ne_tag h2 b4 rfl,ne_tag h2 b5 rfl,ne_tag h2 b6 rfl⟩
  have nf:ff ∉ dk::A.M:=by
    simp [Ad.M]
    exact ⟨h.f4,ne_tag h3 b1 rfl,ne_tag h3 b3 rfl,h.f1,ne_tag h3 b5 rfl,h.f2⟩
  refine { h with dom:=h.dom.keep K ?_,ed:=e,de:=f,lk:=h.lk.mono mo (fun _ e=>K _ _ nk e) (fun _ e=>K _ _ ns e) (fun _ e=>K _ _ nf e),el:=mo _ _ h.el }
  intro j hj
  simp [Ad.M] at hj
  rcases hj with rfl | rfl | rfl | rfl | rfl | rfl
  · exact ⟨_,f.ob,rfl⟩
  · exact ⟨_,c1,rfl⟩
  · exact ⟨_,c2.ob,rfl⟩
  · exact ⟨_,c2.ce,rfl⟩
  · exact ⟨_,c5,rfl⟩
  · exact ⟨_,c6,rfl⟩
theorem LW.deck (h:LW M H A dk k ss ff el d t L st fv m) (K:Keep [dk] H H') (f:H'[dk]?=some (.list (d'.map .int))) (l:d'.length≤d.length):LW M H' A dk k ss ff el d' t L st fv m:=
  h.edit (Ad.m4 K) (h.ed.deck h.de K) (h.de.mk' f l)
theorem LW.look (h:LW M H A dk k ss ff el d t L st fv m) (K:Keep [k,ff] H H') (hd:Dom M H') (hl:LockAt (stl M H') H' k ss ff (splitL L) fv'):LW M H' A dk k ss ff el d t L st fv' m:=by
  have mo:FLe (stl M H) (stl M H'):=stl_mono K (by simp [h.mK,h.mf]) (fun j h=>.inl h)
  refine h.lk.elim fun sg rl sl n rv sv h1 h2 h3 _ _ _ _ _=>?_
  refine h.ed.buE fun pt tk ct b1=>?_
  refine h.ed.gaE fun C gs ge b2 _ _=>?_
  have b3:=b2.ob
  have b4:=b2.ce
  have b5:=h.ed.lg
  obtain ⟨rv',b6,_⟩:=h.ed.rw
  have b7:=h.de.ob
  have b8:=h.ed.mkk
  have b9:=h.ed.md
  have b0:=h.ed.li
  obtain ⟨x,y,z,eq⟩:=logA_inst (rw:=A.rw) (st:=st)
  rw [eq] at b5
  have nd:dk ∉ [k,ff]:=by simp; exact ⟨ne_tag b7 h1 rfl,h.f4.symm⟩
  refine { h with dom:=hd,ed:=h.ed.keep K ?_ ?_ ?_ ?_ ?_ ?_ ?_ ?_,de:=⟨K _ _ nd b7,h.de.n1,h.de.n2,h.de.n3,h.de.hl⟩,lk:=hl,el:=mo _ _ h.el } <;> simp
  · exact ⟨ne_tag b1 h1 rfl,ne_tag b1 h3 rfl⟩
  · exact ⟨ne_tag b3 h1 rfl,ne_tag b3 h3 rfl⟩
  · exact ⟨ne_tag b4 h1 rfl,h.f1.symm⟩
  · exact ⟨ne_tag b8 h1 rfl,ne_tag b8 h3 rfl⟩
  · exact ⟨ne_tag b9 h1 rfl,ne_tag b9 h3 rfl⟩
  · exact ⟨ne_tag b0 h1 rfl,h.f3.symm⟩
  · exact ⟨ne_tag b5 h1 rfl,ne_tag b5 h3 rfl⟩
  · exact ⟨ne_tag b6 h1 rfl,h.f2.symm⟩
end
noncomputable def Ad.re (A:Ad) (rw':Nat):Ad:={ A with rw:=rw' }
theorem EdAt.taken {H H1:Hp} {A:Ad} {t:List Int} {st:LogSt} {m rw':Nat} (h:EdAt H A t st m) (k:Keep [A.lg] H H1) (e:H1[A.lg]?=some (logA rw' none)) (n:H[rw']?=none) (e2:H1[rw']?=some (.list [])):EdAt H1 (A.re rw') t none m:=by
  refine h.buE fun pt tk ct h1=>?_
  refine h.gaE fun C gs ge h2 h3 h4=>?_
  have g1:=h2.ob
  have g2:=h2.ce
  have hmk:=h.mkk
  have hmd:=h.md
  have hli:=h.li
  have hlg:=h.lg
  obtain ⟨x,y,z,el⟩:=logA_inst (rw:=A.rw) (st:=st)
  rw [el] at hlg
  have nr:∀ (j:Nat) (o:AO),H[j]?=some o→j≠rw':=fun j o h e=>by rw [e,n] at h; cases h
  refine ⟨⟨pt,tk,ct,k _ _ ?_ h1⟩,⟨C,gs,ge,h2.keep k ?_ ?_,h3,h4⟩,k _ _ ?_ hmk,k _ _ ?_ hmd,k _ _ ?_ hli,e,⟨[],e2,Nat.zero_le _⟩,h.n1,nr _ _ g2,nr _ _ hli⟩ <;> simp only [List.mem_singleton]
  · exact ne_tag h1 hlg rfl
  · exact ne_tag g1 hlg rfl
  · exact ne_tag g2 hlg rfl
  · exact ne_tag hmk hlg rfl
  · exact ne_tag hmd hlg rfl
  · exact ne_tag hli hlg rfl
theorem LW.taken {M:List Nat} {H H1:Hp} {A:Ad} {dk k ss ff el:Nat} {d t L:List Int} {st:LogSt} {fv:List AV} {m rw':Nat} (h:LW M H A dk k ss ff el d t L st fv m) (K:Keep [A.lg] H H1) (e:H1[A.lg]?=some (logA rw' none)) (n:H[rw']?=none) (e2:H1[rw']?=some (.list [])):LW (rw'::M) H1 (A.re rw') dk k ss ff el d t L none fv m:=by
  refine h.lk.elim fun sg rl sl n' rv sv h1 h2 h3 _ _ _ _ _=>?_
  have b7:=h.de.ob
  have hlg:=h.ed.lg
  obtain ⟨x,y,z,eq⟩:=logA_inst (rw:=A.rw) (st:=st)
  rw [eq] at hlg
  have lgM:A.lg∈M:=h.mm _ (by simp [Ad.M])
  have nr:∀ (j:Nat) (o:AO),H[j]?=some o→j≠rw':=fun j o h e=>by rw [e,n] at h; cases h
  have mo:FLe (stl M H) (stl (rw'::M) H1):=stl_mono K (by simp [lgM]) (fun j q=>by
    rcases List.mem_cons.mp q with rfl | q
    · exact .inr n
    · exact .inl q)
  have a1:k ∉ [A.lg]:=by simp only [List.mem_singleton]; exact ne_tag h1 hlg rfl
  have a2:ss ∉ [A.lg]:=by simp only [List.mem_singleton]; exact ne_tag h2 hlg rfl
  have a3:ff ∉ [A.lg]:=by simp only [List.mem_singleton]; exact ne_tag h3 hlg rfl
  have a4:dk ∉ [A.lg]:=by simp only [List.mem_singleton]; exact ne_tag b7 hlg rfl
  refine ⟨(h.dom.keep1 K ⟨_,e,rfl⟩).cons e2 rfl,h.ed.taken K e n e2,⟨K _ _ a4 b7,h.de.n1,nr _ _ b7,h.de.n3,h.de.hl⟩,h.lk.mono mo (fun _ e=>K _ _ a1 e) (fun _ e=>K _ _ a2 e) (fun _ e=>K _ _ a3 e),mo _ _ h.el,?_,List.mem_cons_of_mem _ h.mK,List.mem_cons_of_mem _ h.ms,List.mem_cons_of_mem _ h.mf,h.f1,nr _ _ h3,h.f3,h.f4⟩
  intro j hj
  simp [Ad.M,Ad.re] at hj
  rcases hj with rfl | rfl | rfl | rfl | rfl | rfl
  · exact List.mem_cons_of_mem _ (h.mm _ (by walk_at "sm"))
  · exact List.mem_cons_of_mem _ (h.mm _ (by simp [Ad.M]))
  · exact List.mem_cons_of_mem _ (h.mm _ (by simp [Ad.M]))
  · exact List.mem_cons_of_mem _ (h.mm _ (by simp [Ad.M]))
  · exact List.mem_cons_of_mem _ (h.mm _ (by simp [Ad.M]))
  · simp
theorem LW.changed {M:List Nat} {H H1:Hp} {A:Ad} {dk k ss ff ff' el cd:Nat} {d t L L':List Int} {st:LogSt} {fv fv':List AV} {m:Nat} (h:LW M H A dk k ss ff el d t L st fv m) (K:Keep [k,ss] H H1) (n:H[ff']?=none) (hd:Dom (ff'::M) H1) (hl:LockAt (stl (ff'::M) H1) H1 k ss ff' (splitL L') fv') (hc:stl M H cd=some (.list (L'.map .int))):LW (ff'::M) H1 A dk k ss ff' cd d t L' st fv' m:=by
  refine h.lk.elim fun sg rl sl n' rv sv h1 h2 h3 _ _ _ _ _=>?_
  refine h.ed.buE fun pt tk ct b1=>?_
  refine h.ed.gaE fun C gs ge b2 _ _=>?_
  have b3:=b2.ob
  have b4:=b2.ce
  have b5:=h.ed.lg
  obtain ⟨rv',b6,_⟩:=h.ed.rw
  have b7:=h.de.ob
  have b8:=h.ed.mkk
  have b9:=h.ed.md
  have b0:=h.ed.li
  obtain ⟨x,y,z,eq⟩:=logA_inst (rw:=A.rw) (st:=st)
  rw [eq] at b5
  have nr:∀ (j:Nat) (o:AO),H[j]?=some o→ff'≠j:=fun j o h e=>by rw [← e,n] at h; cases h
  have mo:FLe (stl M H) (stl (ff'::M) H1):=stl_mono K (by simp [h.mK,h.ms]) (fun j q=>by
    rcases List.mem_cons.mp q with rfl | q
    · exact .inr n
    · exact .inl q)
  have nd:dk ∉ [k,ss]:=by simp; exact ⟨ne_tag b7 h1 rfl,ne_tag b7 h2 rfl⟩
  refine ⟨hd,h.ed.keep K ?_ ?_ ?_ ?_ ?_ ?_ ?_ ?_,⟨K _ _ nd b7,h.de.n1,h.de.n2,h.de.n3,h.de.hl⟩,hl,mo _ _ hc,fun j q=>List.mem_cons_of_mem _ (h.mm j q),List.mem_cons_of_mem _ h.mK,List.mem_cons_of_mem _ h.ms,by simp,nr _ _ b4,nr _ _ b6,nr _ _ b0,nr _ _ b7⟩ <;> simp
  · exact ⟨ne_tag b1 h1 rfl,ne_tag b1 h2 rfl⟩
  · exact ⟨ne_tag b3 h1 rfl,ne_tag b3 h2 rfl⟩
  · exact ⟨ne_tag b4 h1 rfl,ne_tag b4 h2 rfl⟩
  · exact ⟨ne_tag b8 h1 rfl,ne_tag b8 h2 rfl⟩
  · exact ⟨ne_tag b9 h1 rfl,ne_tag b9 h2 rfl⟩
  · exact ⟨ne_tag b0 h1 rfl,ne_tag b0 h2 rfl⟩
  · exact ⟨ne_tag b5 h1 rfl,ne_tag b5 h2 rfl⟩
  · exact ⟨ne_tag b6 h1 rfl,ne_tag b6 h2 rfl⟩
theorem x_count {H:Hp} {k:Nat} {i:Int} {l:List Int} {Q:Int→List Int→Prop} (h:H[k]?=some (.list (l.map .int))) (hl:l.length≤999999) (q:Q i l):∃ (i':Int) (l:List Int),AV.int i=.int i'∧H[k]?=some (.list (l.map .int))∧l.length≤999999∧Q i' l:=⟨i,l,rfl,h,hl,q⟩
theorem c_811 {n cd:Nat} {M:List Nat} {H:Hp} {A:Ad} {dk k ss ff el:Nat} {d t L:List Int} {st:LogSt} {fv:List AV} {m:Nat} (h:LW M H A dk k ss ff el d t L st fv m) (hs:Stretch L t st) (hc:stl M H cd=some (.list (t.map .int))) (lt:t.length≤300000) (lL:L.length≤300000) {Q:AV→Hp→Prop}
    (q:∀ (x:Int) (M':List Nat) (A':Ad) (ff':Nat) (fv':List AV) (H':Hp),A'.on=A.on→A'.bf=A.bf→A'.lg=A.lg→FLe (stl M H) (stl M' H')→LW M' H' A' dk k ss ff' cd d t t none fv' m→((x=-1∧fv'=fv∧t=L)∨∃ a:Nat,x=a∧∀ j,j<a→fv'[j]?=fv[j]?)→Q (.int x) H'):WC (callF (n+8)) 811 [.ref k,.ref A.lg,.ref el,.ref cd] H Q:=by
  refine run_811 fun ρ r1 r2 r3 r4=>?_
  have hlg:=h.ed.lg
  refine h.lk.elim fun sg rl sl n' rv sv h1 h2 h3 _ _ _ _ _=>?_
  unfold b_811
  have hc0:=(stl_get hc).2
  have he0:=(stl_get h.el).2
  cases st with
  | none=>
    have hlg':=hlg
    walk_at "ww"
    refine c_662 hlg (fun _ rw' H1 k1 e1 n1 e2=>?_) (fun b e g hx=>by cases hx)
    have w1:=h.taken k1 e1 n1 e2
    have hs:t=L:=hs
    subst hs
    walk_at "ww"
    have mo:FLe (stl M H) (stl (rw'::M) H1):=stl_mono k1 (by simp; exact .inl (h.mm _ (by simp [Ad.M]))) (fun j q=>by
      rcases List.mem_cons.mp q with rfl | q
      · exact .inr n1
      · exact .inl q)
    exact q _ (rw'::M) (A.re rw') ff fv H1 rfl rfl rfl mo { w1 with el:=mo _ _ hc } (.inl ⟨rfl,rfl,rfl⟩)
  | some p=>
    obtain ⟨b,e,g⟩:=p
    have hlg':=hlg
    walk_at "ww"
    refine c_662 hlg (fun hx=>by cases hx) (fun b' e' g' hx r rw' H1 k1 e1 n1 e2 e3=>?_)
    cases hx
    have w1:=h.taken k1 e1 n1 e2
    have mo:FLe (stl M H) (stl (rw'::M) H1):=stl_mono k1 (by simp; exact .inl (h.mm _ (by simp [Ad.M]))) (fun j q=>by
      rcases List.mem_cons.mp q with rfl | q
      · exact .inr n1
      · exact .inl q)
    obtain ⟨s1,s2,s3⟩:=hs.facts
    have hc1:=(stl_get (mo _ _ hc)).2
    have he1:=(stl_get (mo _ _ h.el)).2
    have cut:=cut_of hs
    refine w1.lk.elim fun _ _ _ _ _ _ h11 _ _ _ _ _ _ _=>?_
    have pk1:pick (t.map AV.int) none (some (b - 1))=(t.take (b - 1).toNat).map AV.int:=by rw [pick_to (by lia),List.map_take]
    have cc:∀ l:List Int,l.count 10≤l.length:=fun l=>List.count_le_length
    have e':∀ c:Nat,AV.int ((c:Int)+1)=AV.int ((c+1:Nat):Int):=fun c=>rfl
    walk_at "ww"
    rw [pk1]
    refine x_count (by exact get_new1) (by simp; omega) ?_
    walk_at "ww"
    rw [pick_int (by lia) (by lia)]
    refine x_count (by exact get_new1) (by simp; omega) ?_
    walk_at "ww"
    refine c_790 (by walk_at "hp") (by lia) fun fl xs H3 k3 n3 e4 E4=>?_
    have K3:Keep [] H1 H3:=Keep.trans Keep.app (Keep.trans Keep.app k3)
    have hc3:=K3 _ _ (by walk_at "sm") hc1
    have w3:=w1.keep0 K3
    refine w3.lk.elim fun sg' rl' sl' n'' rv' sv' y1 _ _ _ _ _ _ _=>?_
    walk_at "ww"
    rw [pick_int (by lia) (by lia)]
    refine x_count (by exact get_new1) (by simp; omega) ?_
    walk_at "ww"
    rw [e',e']
    have w4:=w3.keep0 (Keep.app (t:=[AO.list (((t.take (e - 1).toNat).drop (b - 1).toNat).map AV.int)]))
    have m34:FLe (nw (H1++[AO.list ((t.take (b - 1).toNat).map AV.int)]++[AO.list (((L.take (b - 1+(e - b - g)).toNat).drop (b - 1).toNat).map AV.int)]).length H3) (stl (rw'::M) (H3++[AO.list (((t.take (e - 1).toNat).drop (b - 1).toNat).map AV.int)])):=
      (nw_keep Keep.app).trans (fle_nw fun m hm=>by have:=w1.dom.lt m hm; simp; lia)
    have hln:=lines_of e4 n3 E4 (by lia) m34
    have lsL:(splitL L).length≤900000:=by rw [split_len]; have:=cc L; lia
    have hcd4:stl (rw'::M) (H3++[AO.list (((t.take (e - 1).toNat).drop (b - 1).toNat).map AV.int)]) cd=some (.list (t.map .int)):=by
      have:=mo _ _ hc
      obtain ⟨a1,a2⟩:=stl_get this
      exact stl_mk a1 (get_app (K3 _ _ (by walk_at "sm") a2))
    refine c_278 w4.dom w4.mK w4.ms w4.mf w4.lk hln cut lsL fun ff' fv' H5 k5 n5 d5 l5 p5=>?_
    have w5:=w4.changed k5 n5 d5 l5 hcd4
    walk_at "ww"
    have mo5:FLe (stl M H) (stl (ff'::rw'::M) H5):=mo.trans ((stl_mono (M:=rw'::M) (M':=rw'::M) (Keep.trans K3 Keep.app) (by walk_at "sm") (fun j h=>.inl h)).trans (stl_mono k5 (by simp; exact ⟨.inl (.inr h.mK),.inl (.inr h.ms)⟩) (fun j q=>by
      rcases List.mem_cons.mp q with rfl | q
      · exact .inr n5
      · exact .inl q)))
    exact q _ (ff'::rw'::M) (A.re rw') ff' fv' H5 rfl rfl rfl mo5 w5 (.inr ⟨_,rfl,p5⟩)
theorem LW.grow {M M2:List Nat} {H H':Hp} {A:Ad} {dk k ss ff el:Nat} {d t L:List Int} {st:LogSt} {fv:List AV} {m:Nat} (h:LW M H A dk k ss ff el d t L st fv m) (K:Keep [] H H') (hd:Dom M2 H') (a:∀ j∈M2,j∈M∨H[j]?=none) (b:∀ j∈M,j∈M2):LW M2 H' A dk k ss ff el d t L st fv m:=
  have mo:FLe (stl M H) (stl M2 H'):=stl_mono K (by walk_at "sm") a
  { h with dom:=hd,ed:=h.ed.keep0 K,de:=h.de.keep0 K,lk:=h.lk.mono mo (fun _ e=>K _ _ (by walk_at "sm") e) (fun _ e=>K _ _ (by walk_at "sm") e) (fun _ e=>K _ _ (by walk_at "sm") e),el:=mo _ _ h.el,mm:=fun j q=>b j (h.mm j q),mK:=b _ h.mK,ms:=b _ h.ms,mf:=b _ h.mf }
structure Two (M:List Nat) (H:Hp) (A:Ad) (dk k ff k2 ss2 ff2:Nat) (ls:List (List Int)) (fv:List AV):Prop where
  lk:LockAt (stl M H) H k2 ss2 ff2 ls fv
  mK:k2∈M
  ms:ss2∈M
  mf:ff2∈M
  n0:k2≠k
  n1:ff2≠ff
  n2:ff2≠dk
  n3:ff2≠A.cl
  n4:ff2≠A.rw
  n5:ff2≠A.li
section
variable {M:List Nat} {H H':Hp} {A:Ad} {dk k ss ff el k2 ss2 ff2:Nat} {d d' t t' L:List Int} {st st':LogSt} {fv fv' fv2:List AV} {m m':Nat} {ls:List (List Int)}
theorem LW.other (h:LW M H A dk k ss ff el d t L st fv m) (T:Two M H A dk k ff k2 ss2 ff2 ls fv2) (K:Keep [k2,ff2] H H') (hd:Dom M H'):LW M H' A dk k ss ff el d t L st fv m:=by
  have mo:FLe (stl M H) (stl M H'):=stl_mono K (by simp [T.mK,T.mf]) (fun j h=>.inl h)
  refine h.lk.elim fun sg rl sl n rv sv h1 h2 h3 _ _ _ _ _=>?_
  refine T.lk.elim fun _ _ _ _ _ _ t1 t2 t3 _ _ _ _ _=>?_
  refine h.ed.buE fun pt tk ct b1=>?_
  refine h.ed.gaE fun C gs ge b2 _ _=>?_
  have b3:=b2.ob
  have b4:=b2.ce
  have b5:=h.ed.lg
  obtain ⟨rv',b6,_⟩:=h.ed.rw
  have b7:=h.de.ob
  have b8:=h.ed.mkk
  have b9:=h.ed.md
  have b0:=h.ed.li
  obtain ⟨x,y,z,eq⟩:=logA_inst (rw:=A.rw) (st:=st)
  rw [eq] at b5
  have nd:dk ∉ [k2,ff2]:=by simp; exact ⟨ne_tag b7 t1 rfl,T.n2.symm⟩
  have nk:k ∉ [k2,ff2]:=by simp; exact ⟨T.n0.symm,ne_tag h1 t3 rfl⟩
  have ns:ss ∉ [k2,ff2]:=by simp; exact ⟨ne_tag h2 t1 rfl,ne_tag h2 t3 rfl⟩
  have nf:ff ∉ [k2,ff2]:=by simp; exact ⟨ne_tag h3 t1 rfl,T.n1.symm⟩
  refine { h with dom:=hd,ed:=h.ed.keep K ?_ ?_ ?_ ?_ ?_ ?_ ?_ ?_,de:=⟨K _ _ nd b7,h.de.n1,h.de.n2,h.de.n3,h.de.hl⟩,lk:=h.lk.mono mo (fun _ e=>K _ _ nk e) (fun _ e=>K _ _ ns e) (fun _ e=>K _ _ nf e),el:=mo _ _ h.el } <;> simp
  · exact ⟨ne_tag b1 t1 rfl,ne_tag b1 t3 rfl⟩
  · exact ⟨ne_tag b3 t1 rfl,ne_tag b3 t3 rfl⟩
  · exact ⟨ne_tag b4 t1 rfl,T.n3.symm⟩
  · exact ⟨ne_tag b8 t1 rfl,ne_tag b8 t3 rfl⟩
  · exact ⟨ne_tag b9 t1 rfl,ne_tag b9 t3 rfl⟩
  · exact ⟨ne_tag b0 t1 rfl,T.n5.symm⟩
  · exact ⟨ne_tag b5 t1 rfl,ne_tag b5 t3 rfl⟩
  · exact ⟨ne_tag b6 t1 rfl,T.n4.symm⟩
theorem Two.look (T:Two M H A dk k ff k2 ss2 ff2 ls fv2) (h:LW M H A dk k ss ff el d t L st fv m) (K:Keep [k,ff] H H'):Two M H' A dk k ff k2 ss2 ff2 ls fv2:=by
  have mo:FLe (stl M H) (stl M H'):=stl_mono K (by simp [h.mK,h.mf]) (fun j h=>.inl h)
  refine h.lk.elim fun sg rl sl n rv sv h1 h2 h3 _ _ _ _ _=>?_
  refine T.lk.elim fun _ _ _ _ _ _ t1 t2 t3 _ _ _ _ _=>?_
  have nk:k2 ∉ [k,ff]:=by simp; exact ⟨T.n0,ne_tag t1 h3 rfl⟩
  have ns:ss2 ∉ [k,ff]:=by simp; exact ⟨ne_tag t2 h1 rfl,ne_tag t2 h3 rfl⟩
  have nf:ff2 ∉ [k,ff]:=by simp; exact ⟨ne_tag t3 h1 rfl,T.n1⟩
  exact { T with lk:=T.lk.mono mo (fun _ e=>K _ _ nk e) (fun _ e=>K _ _ ns e) (fun _ e=>K _ _ nf e) }
theorem Two.keep0 (T:Two M H A dk k ff k2 ss2 ff2 ls fv2) (K:Keep [] H H'):Two M H' A dk k ff k2 ss2 ff2 ls fv2:=
  have mo:FLe (stl M H) (stl M H'):=stl_mono K (by walk_at "sm") (fun j h=>.inl h)
  { T with lk:=T.lk.mono mo (fun _ e=>K _ _ (by walk_at "sm") e) (fun _ e=>K _ _ (by walk_at "sm") e) (fun _ e=>K _ _ (by walk_at "sm") e) }
theorem Two.deck (T:Two M H A dk k ff k2 ss2 ff2 ls fv2) (h:LW M H A dk k ss ff el d t L st fv m) (K:Keep [dk] H H'):Two M H' A dk k ff k2 ss2 ff2 ls fv2:=by
  have mo:FLe (stl M H) (stl M H'):=stl_mono K (by simp; exact .inl (h.mm _ (by walk_at "sm"))) (fun j h=>.inl h)
  refine T.lk.elim fun _ _ _ _ _ _ t1 t2 t3 _ _ _ _ _=>?_
  have b7:=h.de.ob
  have nk:k2 ∉ [dk]:=by simp; exact ne_tag t1 b7 rfl
  have ns:ss2 ∉ [dk]:=by simp; exact ne_tag t2 b7 rfl
  have nf:ff2 ∉ [dk]:=by simp; exact T.n2
  exact { T with lk:=T.lk.mono mo (fun _ e=>K _ _ nk e) (fun _ e=>K _ _ ns e) (fun _ e=>K _ _ nf e) }
theorem two_look {n ln:Nat} {ρ:Loc} (h:LW M H A dk k ss ff el d t L st fv m) (T:Two M H A dk k ff k2 ss2 ff2 (splitL L) fv2) (hl:LinesF (stl M H) ln (splitL L)) (s1:ρ "lock_here" = some (.ref k)) (s2:ρ "whole_here" = some (.ref k2)) (s3:ρ "lines" = some (.ref ln)) {R:AV→AV→Hp→Prop}
    (q:∀ D1 D2 fv' H2,eqD H2 (.ref D1) (.ref D2)=some true→LW M H2 A dk k ss ff el d t L st fv' m→R (.ref D1) (.ref D2) H2) :
    W (eMeth (callF (n+8)) (eVar "lock_here") "look_at" [(eVar "lines"),(eInt 0),(eBlt "len" [(eVar "lines")])]) ρ H fun x H1=>W (eMeth (callF (n+8)) (eVar "whole_here") "look_at" [(eVar "lines"),(eInt 0),(eBlt "len" [(eVar "lines")])]) ρ H1 fun y H2=>R x y H2:=by
  refine h.lk.elim fun sg rl sl n' rv sv h1 h2 h3 _ _ _ _ _=>?_
  obtain ⟨lv,g1,g2⟩:=hl.ob
  have g1':=(stl_get g1).2
  have l1:=hl.l1
  have ll:=g2.1
  walk_at "ww"
  rw [ll]
  refine c_271 h.dom h.mK h.ms h.mf h.lk hl fun D1 ys1 fv' H1 k1 d1 lk1 n1 e1 E1=>?_
  have w1:=h.look k1 d1 lk1
  have T1:=T.look h k1
  have mo1:FLe (stl M H) (stl M H1):=stl_mono k1 (by simp [h.mK,h.mf]) (fun j h=>.inl h)
  have hl1:=hl.mono mo1
  have gg:=(stl_get (mo1 _ _ g1)).2
  refine T1.lk.elim fun _ _ _ _ _ _ t1 t2 t3 _ _ _ _ _=>?_
  have nD:D1 ∉ M:=h.dom.new n1
  walk_at "ww"
  rw [ll]
  refine c_271 w1.dom T1.mK T1.ms T1.mf T1.lk hl1 fun D2 ys2 fv2' H2 k2' d2 lk2 n2 e2 E2=>?_
  have mo2:FLe (stl M H1) (stl M H2):=stl_mono k2' (by simp [T1.mK,T1.mf]) (fun j h=>.inl h)
  have w2:=w1.other T1 k2' d2
  have e1':=(stl_get (mo2 _ _ (stl_mk nD e1))).2
  exact q D1 D2 fv' H2 (eq_faces stl_le e1' e2 (E1.imp fun _ _=>FaceV.mono mo2) E2) w2
end
section
variable {M:List Nat} {H H':Hp} {A:Ad} {dk k ss ff el cd k2 ss2 ff2:Nat} {d d' t t' L:List Int} {st st':LogSt} {fv fv' fv2:List AV} {m m':Nat} {ls:List (List Int)}
theorem fresh_two {r:Nat} {H1:Hp} (h:LW M H A dk k ss ff el d t L st fv m) (K:Keep [] H H1) (nk:H[k2]?=none) (ns:H[ss2]?=none) (nf:H[ff2]?=none) (dom:Dom (ff2::ss2::k2::M) H1) (lk:LockAt (stl (ff2::ss2::k2::M) H1) H1 k2 ss2 ff2 ls fv2) :
    LW (ff2::ss2::k2::M) H1 A dk k ss ff el d t L st fv m∧Two (ff2::ss2::k2::M) H1 A dk k ff k2 ss2 ff2 ls fv2:=by
  refine h.lk.elim fun sg rl sl n rv sv h1 h2 h3 _ _ _ _ _=>?_
  refine h.ed.gaE fun C gs ge b2 _ _=>?_
  obtain ⟨rv',b6,_⟩:=h.ed.rw
  have ne:∀ (a b:Nat) (o:AO),H[a]?=none→H[b]?=some o→a≠b:=fun a b o x y e=>by rw [e,y] at x; cases x
  refine ⟨h.grow K dom (fun j q=>?_) (fun j q=>List.mem_cons_of_mem _ (List.mem_cons_of_mem _ (List.mem_cons_of_mem _ q))),⟨lk,by simp,by simp,by simp,ne _ _ _ nk h1,ne _ _ _ nf h3,ne _ _ _ nf h.de.ob,ne _ _ _ nf b2.ce,ne _ _ _ nf b6,ne _ _ _ nf h.ed.li⟩⟩
  rcases List.mem_cons.mp q with rfl | q
  · exact .inr nf
  rcases List.mem_cons.mp q with rfl | q
  · exact .inr ns
  rcases List.mem_cons.mp q with rfl | q
  · exact .inr nk
  · exact .inl q
theorem lines_lw {fl:Nat} {xs:List AV} {cs:List Int} {H1:Hp} (h:Dom M H) (b:H.length≤fl) (e:H1[fl]?=some (.list xs)) (E:Els (CodesV (nw H.length H1)) xs (splitL cs)) (l1:cs.length≤800000):LinesF (stl M H1) fl (splitL cs):=lines_of e b E l1 (fle_nw h.lt)
theorem lap_end {n:Nat} {ρ:Loc} (h:LW M H A dk k ss ff cd d t t none fv m) (lt:t.length≤300000) (r1:ρ "deck" = some (.ref dk)) (r2:ρ "buffer" = some (.ref A.bf)) (r3:ρ "log" = some (.ref A.lg)) (r4:ρ "codes" = some (.ref cd)) (r5:ρ "lock_here" = some (.ref k)) {Q:Fl→Loc→Hp→Prop}
    (q:∀ (M':List Nat) (d':List Int) (fv':List AV) (ρ':Loc) (H':Hp),ρ' "deck" = some (.ref dk)→ρ' "buffer" = some (.ref A.bf)→ρ' "log" = some (.ref A.lg)→ρ' "elder" = some (.ref cd)→ρ' "lock_here" = some (.ref k)→LW M' H' A dk k ss ff cd d' t t none fv' m→Q .next ρ' H') :
    WS (sSeq
      (sSwapV (eTup [(eVar "codes"),(eFun (callF (n+8)) 797 [(eVar "codes")])]) ["elder", "whole_here"])
      (sSeq
        (sIf (eCmp .NotEq (eAttr (eAttr (eVar "lock_here") "states") "states") (eAttr (eAttr (eVar "whole_here") "states") "states"))
          (sSeq (sRet (eBool false)) sNil)
          sNil)
        (sSeq
          (sIf (eCmp .Eq (eFun (callF (n+8)) 769 [(eVar "deck"),(eInt 3)]) (eInt 0))
            (sSeq
              (sAssign (eFun (callF (n+8)) 790 [(eVar "codes")]) (tVar "lines"))
              (sSeq
                (sIf (eCmp .NotEq (eMeth (callF (n+8)) (eVar "lock_here") "look_at" [(eVar "lines"),(eInt 0),(eBlt "len" [(eVar "lines")])]) (eMeth (callF (n+8)) (eVar "whole_here") "look_at" [(eVar "lines"),(eInt 0),(eBlt "len" [(eVar "lines")])]))
                  (sSeq (sRet (eBool false)) sNil)
                  sNil)
                sNil))
            sNil)
          sNil))) ρ H Q:=by
  have hc:=(stl_get h.el).2
  walk_at "ww"
  refine c_797 h.dom hc (by lia) fun k2 ss2 ff2 H1 k1 nk ns nf dom lk2=>?_
  obtain ⟨w1,T1⟩:=fresh_two (r:=0) h k1 nk ns nf dom lk2
  walk_at "w"
  walk_at "w"
  walk_at "w"
  walk_at "w"
  refine ws_abs (fun H2=>Keep [] H1 H2) Keep.app ?_
  intro H2 K2
  have w2:=w1.keep0 K2
  have T2:=T1.keep0 K2
  clear w1 T1 dom lk2 k1 nk ns nf K2
  refine w2.lk.elim fun sg rl sl n' rv sv h1 h2 h3 h4 h5 h6 h7 h8=>?_
  refine T2.lk.elim fun sg2 rl2 sl2 n2 rv2 sv2 t1 t2 t3 t4 t5 t6 t7 t8=>?_
  have j7:=(stl_get h7).2
  have i7:=(stl_get t7).2
  walk_at "ww"
  refine x_neT (eq_states stl_le j7 i7 h8 t8) ?_
  walk_at "ww"
  refine c_769 w2.de.ob w2.de.hl (by lia) fun x d2 H3 k3 g3 l3 x0 x1=>?_
  have w3:=w2.deck k3 g3 l3
  have T3:=T2.deck w2 k3
  have hc3:=(stl_get w3.el).2
  walk_at "ww"
  refine ite_both (fun c1=>?_) (fun c1=>?_)
  · walk_at "ww"
    refine c_790 hc3 (by lia) fun fl xs H4 k4 n4 e4 E4=>?_
    have w4:=w3.keep0 k4
    have T4:=T3.keep0 k4
    have hl4:=lines_lw w3.dom n4 e4 E4 (by lia)
    walk_at "w"
    walk_at "w"
    walk_at "w"
    walk_at "w"
    refine w_cmp ?_
    refine two_look w4 T4 hl4 (by walk_at "lk") (by walk_at "lk") (by walk_at "lk") fun D1 D2 fv' H5 e5 w5=>?_
    refine x_neT e5 ?_
    walk_at "ww"
    exact q _ _ _ _ _ (by walk_at "lk") (by walk_at "lk") (by walk_at "lk") (by walk_at "lk") (by walk_at "lk") w5
  · walk_at "ww"
    exact q _ _ _ _ _ (by walk_at "lk") (by walk_at "lk") (by walk_at "lk") (by walk_at "lk") (by walk_at "lk") w3
end
theorem kept_ok {F:Fz} {H:Hp} {k ss ff:Nat} {ls:List (List Int)} {fv:List AV} (h:LockAt F H k ss ff ls fv):∀ v∈fv,v=.none∨∃ fs,FaceV F v fs:=fun v hv=>by
  obtain ⟨i,hi⟩:=List.getElem?_of_mem hv
  have hl:i<ls.length:=h.fl ▸ (List.getElem?_eq_some_iff.mp hi).1
  rcases h.fa i v _ hi (List.getElem?_eq_getElem hl) with e | e
  · exact .inl e
  · exact .inr ⟨_,e⟩
section
variable {M:List Nat} {H:Hp} {A:Ad} {dk k ss ff el:Nat} {d t:List Int} {fv:List AV} {m:Nat}
theorem lap {n:Nat} {ρ:Loc} (h:LW M H A dk k ss ff el d t t none fv m) (on:A.on=true) (lt:t.length≤200000) (lm:m≤200000) (r1:ρ "deck" = some (.ref dk)) (r2:ρ "buffer" = some (.ref A.bf)) (r3:ρ "log" = some (.ref A.lg)) (r4:ρ "elder" = some (.ref el)) (r5:ρ "lock_here" = some (.ref k)) {Q:Fl→Loc→Hp→Prop}
    (q:∀ (M':List Nat) (A':Ad) (ff' el':Nat) (d' t':List Int) (fv':List AV) (m':Nat) (ρ':Loc) (H':Hp),A'.on=true→ρ' "deck" = some (.ref dk)→ρ' "buffer" = some (.ref A'.bf)→ρ' "log" = some (.ref A'.lg)→ρ' "elder" = some (.ref el')→ρ' "lock_here" = some (.ref k)→LW M' H' A' dk k ss ff' el' d' t' t' none fv' m'→m'≤m+45→t'.length≤t.length+18→Q .next ρ' H') :
    WS (sSeq
      (sAssign (eFun (callF (n+8)) 790 [(eVar "elder")]) (tVar "lines"))
      (sSeq
        (sFor (iRange [(eFun (callF (n+8)) 769 [(eVar "deck"),(eInt 4)])]) (tVar "again_here")
          (sSeq
            (sExpr (eMeth (callF (n+8)) (eVar "lock_here") "look" [(eVar "lines"),(eFun (callF (n+8)) 769 [(eVar "deck"),(eBlt "len" [(eVar "lines")])])]))
            sNil))
        (sSeq
          (sFor (iRange [(eBin .Add (eInt 1) (eFun (callF (n+8)) 769 [(eVar "deck"),(eInt 3)]))]) (tVar "again_here")
            (sSeq
              (sExpr (eFun (callF (n+8)) 804 [(eVar "deck"),(eVar "buffer")]))
              sNil))
          (sSeq
            (sSwapV (eTup [(eMeth (callF (n+8)) (eVar "buffer") "codes" [(eInt 1),(eBin .Add (eMeth (callF (n+8)) (eVar "buffer") "size" []) (eInt 1))]),(eBlt "list" [(eAttr (eVar "lock_here") "faces")])]) ["codes", "known"])
            (sSeq
              (sAssign (eFun (callF (n+8)) 811 [(eVar "lock_here"),(eVar "log"),(eVar "elder"),(eVar "codes")]) (tVar "first"))
              (sSeq
                (sAssign (eIf (eCmp .Lt (eVar "first") (eInt 0)) (eBlt "len" [(eFun (callF (n+8)) 790 [(eVar "codes")])]) (eVar "first")) (tVar "least"))
                (sSeq
                  (sIf (eAny [(eCmp .NotEq (eSlice (eAttr (eVar "lock_here") "faces") none (some (eVar "least"))) (eSliceV "known" none (some (eVar "least")))),(eAll [(eCmp .Lt (eVar "first") (eInt 0)),(eCmp .NotEq (eVar "codes") (eVar "elder"))])])
                    (sSeq (sRet (eBool false)) sNil)
                    sNil)
                  (sSeq
                    (sSwapV (eTup [(eVar "codes"),(eFun (callF (n+8)) 797 [(eVar "codes")])]) ["elder", "whole_here"])
                    (sSeq
                      (sIf (eCmp .NotEq (eAttr (eAttr (eVar "lock_here") "states") "states") (eAttr (eAttr (eVar "whole_here") "states") "states"))
                        (sSeq (sRet (eBool false)) sNil)
                        sNil)
                      (sSeq
                        (sIf (eCmp .Eq (eFun (callF (n+8)) 769 [(eVar "deck"),(eInt 3)]) (eInt 0))
                          (sSeq
                            (sAssign (eFun (callF (n+8)) 790 [(eVar "codes")]) (tVar "lines"))
                            (sSeq
                              (sIf (eCmp .NotEq (eMeth (callF (n+8)) (eVar "lock_here") "look_at" [(eVar "lines"),(eInt 0),(eBlt "len" [(eVar "lines")])]) (eMeth (callF (n+8)) (eVar "whole_here") "look_at" [(eVar "lines"),(eInt 0),(eBlt "len" [(eVar "lines")])]))
                                (sSeq (sRet (eBool false)) sNil)
                                sNil)
                              sNil))
                          sNil)
                        sNil)))))))))) ρ H Q:=by
  have he:=(stl_get h.el).2
  have le:=(splitL t).length
  have lsp:0<(splitL t).length∧(splitL t).length≤t.length+1:=by rw [split_len]; have:=List.count_le_length (a:=(10:Int)) (l:=t); lia
  walk_at "ww"
  refine c_790 he (by lia) fun ln xs H1 k1 n1 e1 E1=>?_
  have w1:=h.keep0 k1
  have hl1:=lines_lw h.dom n1 e1 E1 (by lia)
  walk_at "ww"
  refine ws_forR1 ?_
  walk_at "ww"
  refine c_769 w1.de.ob w1.de.hl (by lia) fun x d2 H2 k2 g2 l2 x0 x1=>?_
  have w2:=w1.deck k2 g2 l2
  have dm:∀ {G G':Hp},Keep [dk] G G'→FLe (stl M G) (stl M G'):=fun K=>stl_mono K (by simp; exact .inl (h.mm _ (by walk_at "sm"))) (fun j h=>.inl h)
  have hl2:=hl1.mono (dm k2)
  refine ⟨x,rfl,by lia,fun y ρ' H'=>∀ G:Prop,(∀ (d':List Int) (fv':List AV),ρ' "deck" = some (.ref dk)→ρ' "buffer" = some (.ref A.bf)→ρ' "log" = some (.ref A.lg)→ρ' "elder" = some (.ref el)→ρ' "lock_here" = some (.ref k)→ρ' "lines" = some (.ref ln)→LW M H' A dk k ss ff el d' t t none fv' m→LinesF (stl M H') ln (splitL t)→G)→G,fun _ g=>g d2 fv (by walk_at "lk") (by walk_at "lk") (by walk_at "lk") (by walk_at "lk") (by walk_at "lk") (by walk_at "lk") w2 hl2,?_,?_⟩
  · intro y ρ' H' y0 y1 inv
    refine inv _ fun d' fv' r1 r2 r3 r4 r5 r6 w hl=>?_
    refine w.lk.elim fun sg rl sl n' rv sv h1 _ _ _ _ _ _ _=>?_
    obtain ⟨lv,z1,z2⟩:=hl.ob
    have z1':=(stl_get z1).2
    have ll:=z2.1
    have l9:=hl.l1
    walk_at "ww"
    rw [ll]
    refine c_769 w.de.ob w.de.hl (by lia) fun i d3 H3 k3 g3 l3 i0 i1=>?_
    have w3:=w.deck k3 g3 l3
    have hl3:=hl.mono (dm k3)
    walk_at "ww"
    have ei:i=((i.toNat:Nat):Int):=by lia
    rw [ei]
    refine c_266 w3.dom w3.mK w3.ms w3.mf w3.lk hl3 (List.getElem?_eq_getElem (by lia)) fun fv2 v H4 k4 d4 lk4 _ _ _=>?_
    have w4:=w3.look k4 d4 lk4
    have hl4:=hl3.mono (stl_mono (M':=M) k4 (by simp [w3.mK,w3.mf]) (fun j h=>.inl h))
    walk_at "ww"
    exact fun _ g=>g d3 fv2 (by walk_at "lk") (by walk_at "lk") (by walk_at "lk") (by walk_at "lk") (by walk_at "lk") (by walk_at "lk") w4 hl4
  intro y ρ' H' y0 y1 inv
  refine inv _ fun d' fv' r1 r2 r3 r4 r5 r6 w hl=>?_
  clear w1 w2 hl1 hl2 he e1 E1 hl k1 k2 g2
  walk_at "ww"
  refine ws_forR1 ?_
  walk_at "ww"
  refine c_769 w.de.ob w.de.hl (by lia) fun x d2 H2 k2 g2 l2 x0 x1=>?_
  have w2:=w.deck k2 g2 l2
  walk_at "ww"
  refine ⟨by lia,fun y ρ2 H'=>∀ G:Prop,(∀ (d':List Int) (t':List Int) (st':Option (Int×Int×Int)) (m':Nat),ρ2 "deck" = some (.ref dk)→ρ2 "buffer" = some (.ref A.bf)→ρ2 "log" = some (.ref A.lg)→ρ2 "elder" = some (.ref el)→ρ2 "lock_here" = some (.ref k)→LW M H' A dk k ss ff el d' t' t st' fv' m'→Stretch t t' st'→(m':Int)≤m+15 * y→(t'.length:Int)≤t.length+6 * y→y≤1+x→G)→G,fun _ g=>g d2 t none m (by walk_at "lk") (by walk_at "lk") (by walk_at "lk") (by walk_at "lk") (by walk_at "lk") w2 rfl (by lia) (by lia) (by lia),?_,?_⟩
  · intro y ρ2 H' y0 y1 inv
    refine inv _ fun d' t' st' m' r1 r2 r3 r4 r5 w hs lm' lt' _=>?_
    walk_at "ww"
    refine c_804 w.ed w.de (by lia) (by lia) fun t2 st2 d3 H3 k3 er l3 ed3 de3=>?_
    have w3:=w.edit k3 ed3 de3
    rw [on] at er
    walk_at "ww"
    exact fun _ g=>g d3 t2 st2 (m'+15) (by walk_at "lk") (by walk_at "lk") (by walk_at "lk") (by walk_at "lk") (by walk_at "lk") w3 (stretch_step hs er) (by lia) (by lia) (by lia)
  intro y ρ2 H' y0 y1 inv
  refine inv _ fun d' t' st' m' r1 r2 r3 r4 r5 w hs lm' lt' _=>?_
  refine w.ed.buE fun pt tk ct b1=>?_
  refine w.lk.elim fun sg rl sl n' rv sv h1 h2 h3 _ _ _ _ _=>?_
  have lf:=w.lk.fl
  walk_at "ww"
  refine c_573 w.ed ?_
  walk_at "ww"
  show WC _ _ [AV.ref A.bf,AV.int (((0:Nat):Int)+1),_] _ _
  refine c_587 (s:=0) w.ed (Nat.zero_le _) (Nat.le_refl _) fun cd H3 k3 nc ec=>?_
  rw [List.take_of_length_le (Nat.le_refl _),List.drop_zero] at ec
  have w3:=w.keep0 k3
  have hcd3:stl M H3 cd=some (.list (t'.map .int)):=stl_mk (w.dom.new nc) ec
  have h1':=k3 _ _ (by walk_at "sm") h1
  have h3':=k3 _ _ (by walk_at "sm") h3
  walk_at "ww"
  have kx:Keep [] H3 (H3++[AO.list fv']++[AO.tup [AV.ref cd,AV.ref H3.length]]):=Keep.trans Keep.app Keep.app
  have w4:=w3.keep0 kx
  have mo4:FLe (stl M H3) (stl M (H3++[AO.list fv']++[AO.tup [AV.ref cd,AV.ref H3.length]])):=stl_mono kx (by walk_at "sm") (fun j h=>.inl h)
  have hkn:stl M (H3++[AO.list fv']++[AO.tup [AV.ref cd,AV.ref H3.length]]) H3.length=some (.list fv'):=stl_mk (w3.dom.ge (Nat.le_refl _)) (get_app get_new1)
  refine c_811 w4 hs (mo4 _ _ hcd3) (by lia) (by lia) fun x' M' A' ff' fv2 H5 ea eb eg mo w5 hcase=>?_
  have hkn5:=(stl_get (mo _ _ hkn)).2
  have hel5:=(stl_get (mo _ _ w4.el)).2
  have hcd5:=(stl_get w5.el).2
  have nkn:stl M' H5 H3.length=some (.list fv'):=mo _ _ hkn
  generalize H3.length=kn at *
  rw [on] at ea
  have lt':t'.length≤250000:=by lia
  have lsp':(splitL t').length≤t'.length+1:=by rw [split_len]; have:=List.count_le_length (a:=(10:Int)) (l:=t'); lia
  have lf5:=w5.lk.fl
  have lf4:=w4.lk.fl
  have lz2:fv2.length≤1000000:=by lia
  have lz1:fv'.length≤1000000:=by lia
  rcases hcase with ⟨rfl,rfl,rfl⟩ | ⟨a,rfl,hj⟩
  · walk_at "ww"
    rw [show decide ((-1:Int)<0)=true by decide]
    walk_at "ww"
    refine c_790 hcd5 (by lia) fun fl xs H6 k6 n6 e6 E6=>?_
    have w6:=w5.keep0 k6
    refine w6.lk.elim fun sg6 rl6 sl6 n6' rv6 sv6 y1 y2 y3 _ _ _ _ _=>?_
    have hkn6:=k6 _ _ (by walk_at "sm") hkn5
    have hel6:=k6 _ _ (by walk_at "sm") hel5
    have hcd6:=k6 _ _ (by walk_at "sm") hcd5
    have lxs:=E6.1
    walk_at "ww"
    refine x_neT (eq_kept (F:=stl M' H6) ((stl_le.app).app) (get_app get_new1) get_new1 (fun v hv=>kept_ok w6.lk v ?_)) ?_
    · rw [pick_to (by lia)] at hv
      exact List.mem_of_mem_take hv
    walk_at "ww"
    rw [show decide ((-1:Int)<0)=true by decide]
    walk_at "ww"
    rw [show (!decide (t'=t'))=false by simp]
    have w7:=(w6.keep0 (Keep.app (t:=[AO.list (pick fv2 none (some (xs.length:Int)))]))).keep0 (Keep.app (t:=[AO.list (pick fv2 none (some (xs.length:Int)))]))
    repeat first
      | exact lap_end w7 (by lia) (by walk_at "lk") (by rw [eb]; walk_at "lk") (by rw [eg]; walk_at "lk") (by walk_at "lk") (by walk_at "lk") fun M8 d8 fv8 ρ8 H8 s1 s2 s3 s4 s5 w8=>q M8 A' ff' cd d8 t' fv8 m' ρ8 H8 ea s1 s2 s3 s4 s5 w8 (by lia) (by lia)
      | walk_at "w"
  · walk_at "ww"
    rw [show decide ((a:Int)<0)=false by simp]
    refine w5.lk.elim fun sg6 rl6 sl6 n6' rv6 sv6 y1 y2 y3 _ _ _ _ _=>?_
    walk_at "ww"
    have pe:pick fv' none (some (a:Int))=pick fv2 none (some (a:Int)):=by
      rw [pick_to (by lia),pick_to (by lia),Int.toNat_natCast]
      apply List.ext_getElem?
      intro j
      rw [List.getElem?_take,List.getElem?_take]
      split
      · exact (hj j ‹_›).symm
      · rfl
    rw [pe]
    refine x_neT (eq_kept (F:=stl M' H5) ((stl_le.app).app) (get_app get_new1) get_new1 (fun v hv=>kept_ok w5.lk v ?_)) ?_
    · rw [pick_to (by lia)] at hv
      exact List.mem_of_mem_take hv
    walk_at "ww"
    rw [show decide ((a:Int)<0)=false by simp]
    have w7:=(w5.keep0 (Keep.app (t:=[AO.list (pick fv2 none (some (a:Int)))]))).keep0 (Keep.app (t:=[AO.list (pick fv2 none (some (a:Int)))]))
    repeat first
      | exact lap_end w7 (by lia) (by walk_at "lk") (by rw [eb]; walk_at "lk") (by rw [eg]; walk_at "lk") (by walk_at "lk") (by walk_at "lk") fun M8 d8 fv8 ρ8 H8 s1 s2 s3 s4 s5 w8=>q M8 A' ff' cd d8 t' fv8 m' ρ8 H8 ea s1 s2 s3 s4 s5 w8 (by lia) (by lia)
      | walk_at "w"
end
theorem w_sliceE {x:Str} {lo hi:Option EX} {ρ:Loc} {H:Hp} {Q:AV→Hp→Prop} {a:Addr} {l:List Int} (hx:ρ x=some (.ext a l)) (h:W (ePart lo) ρ H fun p H2=>W (ePart hi) ρ H2 fun u H3=>∃ lo' hi',part p=some lo'∧part u=some hi'∧l.length≤1000000∧Q (.ref H3.length) (H3++[.list (pick (l.map .int) lo' hi')])):W (eSliceV x lo hi) ρ H Q:=by
  obtain ⟨p,H2,e1,u,H3,e2,lo',hi',e3,e4,e5,q⟩:=h
  exact ⟨_,_,by unfold eSliceV; rw [hx]; exact oB_e e1 (oB_e e2 (bind_e e3 (bind_e e4 (if_pos e5)))),q⟩
theorem EdAt.listen {H:Hp} {A:Ad} {t:List Int} {st:LogSt} {m:Nat} (h:EdAt H A t st m):EdAt (H.set A.li (.list [.ref A.lg])) { A with on:=true } t st m:=by
  refine h.buE fun pt tk ct h1=>?_
  refine h.gaE fun C gs ge h2 h3 h4=>?_
  obtain ⟨rv,h5,h6⟩:=h.rw
  have g1:=h2.ob
  have g2:=h2.ce
  have hlg:=h.lg
  have hmk:=h.mkk
  have hmd:=h.md
  have hli:=h.li
  obtain ⟨x,y,z,el⟩:=logA_inst (rw:=A.rw) (st:=st)
  have hlg':=hlg
  rw [el] at hlg'
  have k:Keep [A.li] H (H.set A.li (.list [.ref A.lg])):=Keep.set (by walk_at "sm")
  refine ⟨⟨pt,tk,ct,k _ _ ?_ h1⟩,⟨C,gs,ge,h2.keep k ?_ ?_,h3,h4⟩,k _ _ ?_ hmk,k _ _ ?_ hmd,get_set hli,k _ _ ?_ hlg,⟨rv,k _ _ ?_ h5,h6⟩,h.n1,h.n2,h.n3⟩ <;> simp only [List.mem_singleton]
  · exact ne_tag h1 hli rfl
  · exact ne_tag g1 hli rfl
  · exact h.n1
  · exact ne_tag hmk hli rfl
  · exact ne_tag hmd hli rfl
  · exact ne_tag hlg' hli rfl
  · exact h.n3.symm
theorem edit_off {t t':List Int} {st st':LogSt} (h:EditR false t st t' st'):st'=st:=by
  rcases h with ⟨_,h⟩ | ⟨p,r,X,_,_,_,h⟩
  · exact h
  · exact h
theorem law_816 {n:Nat} {a:Addr} {l:List Int} (hl:l.length≤63) {H:Hp}:WC (callF (n+9)) 816 [.ext a l] H fun v _=>v=.bool true:=by
  refine run_816 fun ρ r1=>?_
  unfold b_816
  have px:pick (l.map AV.int) none (some 60)=(l.take 60).map AV.int:=by rw [pick_to (by lia),List.map_take]; rfl
  refine ws_seq (ws_swap3 (w_tup (wa_cons (w_mapL (by rfl) (w_sliceE r1 (w_part0 (w_part (w_int ⟨none,some 60,rfl,rfl,by lia,?_⟩))))))))
  rw [px]
  refine ⟨H.length,_,rfl,get_new1,?_,by simp; lia,fun i ys H'=>Keep [(H++[AO.list ((l.take 60).map AV.int)]).length] (H++[AO.list ((l.take 60).map AV.int)]) H'∧H'[(H++[AO.list ((l.take 60).map AV.int)]).length]?=some (.list ys)∧ys.length=i∧∃ d:List Int,ys=d.map .int,⟨Keep.app,get_new1,rfl,[],rfl⟩,?_,?_,?_⟩
  · intro v hv
    obtain ⟨i,_,rfl⟩:=List.mem_map.mp hv
    rfl
  · rintro i ys H' ⟨k',h1,h2,_⟩
    exact ⟨h2,k' _ _ (by walk_at "sm") get_new1⟩
  · rintro i v ys ρ' H' hx ⟨k',h1,h2,d,rfl⟩ rc _
    rw [List.getElem?_map] at hx
    obtain ⟨j,hj,rfl⟩:=Option.map_eq_some_iff.mp hx
    walk_at "ww"
    exact ⟨h1,Keep.trans k' (Keep.set (by walk_at "sm")),get_set h1,by simp [h2],d++[(j.natAbs:Int)],by simp⟩
  rintro ys H2 ⟨k2,e2,ly,d,rfl⟩
  have ld:d.length≤60:=by simp at ly; lia
  generalize (H++[AO.list ((l.take 60).map AV.int)]).length=dk at *
  clear k2 ly
  refine wa_cons (w_newG (wa_cons (w_int (wa_cons (w_str (wa_nil ⟨rfl,fun bf H3 k3 n3 e3=>c_538 e3 fun gp cl mr md li H4 k4 q1 q2 q3 q4 q5 q6 b1 b2 b3 b4 b5=>⟨rfl,?_⟩⟩))))))
  have K4:Keep [] H2 H4:=Keep.drop (Keep.trans (k3.mono (by walk_at "sm")) k4) n3
  have ncl:=new_back k3 q2
  have nli:=new_back k3 q5
  have dk4:=K4 _ _ (by walk_at "sm") e2
  have dcl:dk≠cl:=fun e=>by rw [e,ncl] at e2; cases e2
  have dli:dk≠li:=fun e=>by rw [e,nli] at e2; cases e2
  refine wa_cons (w_newG (wa_nil ⟨rfl,fun lg H5 k5 n5 e5=>c_641 e5 fun rw H6 k6 g1 n6 g2=>⟨rfl,wa_nil ?_⟩⟩))
  have K6:Keep [] H4 H6:=Keep.drop (Keep.trans (k5.mono (by walk_at "sm")) k6) n5
  have nrw:=new_back k5 n6
  have ne4:∀ (j:Nat) (o:AO),H4[j]?=some o→j≠rw:=fun j o h e=>by rw [e,nrw] at h; cases h
  have ed6:EdAt H6 ⟨bf,gp,cl,mr,md,li,lg,rw,false⟩ [] none 8:=
    ⟨⟨1,1,1,K6 _ _ (by walk_at "sm") b1⟩,⟨_,0,8,b2.keep K6 (by walk_at "sm") (by walk_at "sm"),rfl,by simp⟩,K6 _ _ (by walk_at "sm") b3,K6 _ _ (by walk_at "sm") b4,K6 _ _ (by walk_at "sm") b5,g1,⟨[],g2,by simp⟩,q6,ne4 _ _ b2.ce,ne4 _ _ b5⟩
  have de6:DkAt H6 ⟨bf,gp,cl,mr,md,li,lg,rw,false⟩ dk d:=⟨K6 _ _ (by walk_at "sm") dk4,dcl,ne4 _ _ dk4,dli,by lia⟩
  clear k3 n3 e3 k4 q1 q2 q3 q4 q5 b1 b2 b3 b4 b5 K4 ncl nli dk4 e2 k5 n5 e5 k6 n6 g1 g2 K6 nrw ne4
  refine ⟨by simp,_,_,_,_,rfl,get_new1,⟨rfl,rfl,rfl⟩,?_⟩
  have ed7:=ed6.keep0 (Keep.app (t:=[AO.tup [AV.ref dk,AV.ref bf,AV.ref lg]]))
  have de7:=de6.keep0 (Keep.app (t:=[AO.tup [AV.ref dk,AV.ref bf,AV.ref lg]]))
  generalize H6++[AO.tup [AV.ref dk,AV.ref bf,AV.ref lg]]=H7 at *
  clear ed6 de6
  walk_at "ww"
  refine c_783 (k:=12) de7.ob de7.hl (by lia) (by lia) fun xd X d2 H8 k8 g8 l8 nx ex lX=>?_
  have ed8:=ed7.deck de7 k8
  have de8:=de7.mk' g8 l8
  have lX:X.length≤22:=lX
  walk_at "ww"
  have hx:Outer H8 ⟨bf,gp,cl,mr,md,li,lg,rw,false⟩ xd X:=by
    refine ed7.gaE fun C gs ge c1 c2 c3=>?_
    obtain ⟨rv,c4,c5⟩:=ed7.rw
    exact ⟨ex,(fun e=>by rw [e,c1.ce] at nx; cases nx),(fun e=>by rw [e,c4] at nx; cases nx)⟩
  show WC _ _ [AV.ref bf,AV.int (((0:Nat):Int)+1),_] _ _
  refine c_747 (A:=⟨bf,gp,cl,mr,md,li,lg,rw,false⟩) (p:=0) ed8 (Nat.le_refl _) hx (by lia) (by simp; lia) fun t1 st1 H9 k9 er l9 ed9=>?_
  obtain rfl:=edit_off er
  have de9:=de8.keep ed8 k9
  have l9:t1.length≤22:=by simp at l9; lia
  refine ed9.buE fun pt tk ct b1=>?_
  have b2:=ed9.li
  have b2':H9[li]?=some (.list []):=b2
  walk_at "ww"
  have ed10:=ed9.listen
  have de10:DkAt (H9.set li (.list [.ref lg])) ⟨bf,gp,cl,mr,md,li,lg,rw,true⟩ dk d2:=⟨get_set_ne de9.ob de9.n3.symm,de9.n1,de9.n2,de9.n3,de9.hl⟩
  have ed10':EdAt (H9.set li (.list [.ref lg])) ⟨bf,gp,cl,mr,md,li,lg,rw,true⟩ t1 none (8+X.length+9):=ed10
  have on:(⟨bf,gp,cl,mr,md,li,lg,rw,true⟩:Ad).on=true:=rfl
  have eb:(⟨bf,gp,cl,mr,md,li,lg,rw,true⟩:Ad).bf=bf:=rfl
  have eg:(⟨bf,gp,cl,mr,md,li,lg,rw,true⟩:Ad).lg=lg:=rfl
  refine c_573 (A:=⟨bf,gp,cl,mr,md,li,lg,rw,true⟩) ed10' ?_
  clear ed10 ed9 de9 ed8 de8 ed7 de7 hx b1 b2 b2'
  generalize H9.set li (.list [.ref lg])=H10 at *
  generalize (⟨bf,gp,cl,mr,md,li,lg,rw,true⟩:Ad)=A at *
  subst eb eg
  walk_at "ww"
  show WC _ _ [AV.ref A.bf,AV.int (((0:Nat):Int)+1),_] _ _
  refine c_587 (s:=0) ed10' (Nat.zero_le _) (Nat.le_refl _) fun el H11 k11 n11 e11=>?_
  rw [List.take_of_length_le (Nat.le_refl _),List.drop_zero] at e11
  have ed11:=ed10'.keep0 k11
  have de11:=de10.keep0 k11
  refine ed11.buE fun pt tk ct b1=>?_
  refine ed11.gaE fun C gs ge b2 _ _=>?_
  obtain ⟨x,y,z,eq⟩:=logA_inst (rw:=A.rw) (st:=none)
  have b5:=ed11.lg
  rw [eq] at b5
  obtain ⟨rv,b6,_⟩:=ed11.rw
  have dom11:Dom (dk::A.M) H11:=by
    intro j hj
    simp [Ad.M] at hj
    rcases hj with rfl | rfl | rfl | rfl | rfl | rfl
    · exact ⟨_,de11.ob,rfl⟩
    · exact ⟨_,b1,rfl⟩
    · exact ⟨_,b2.ob,rfl⟩
    · exact ⟨_,b2.ce,rfl⟩
    · exact ⟨_,b5,rfl⟩
    · exact ⟨_,b6,rfl⟩
  refine ed10'.gaE fun C0 gs0 ge0 c2 _ _=>?_
  obtain ⟨rv0,c6,_⟩:=ed10'.rw
  have nel:el ∉ dk::A.M:=by
    simp [Ad.M]
    exact ⟨(fun e=>by rw [e,de10.ob] at n11; cases n11),ne_tag e11 b1 rfl,ne_tag e11 b2.ob rfl,(fun e=>by rw [e,c2.ce] at n11; cases n11),ne_tag e11 b5 rfl,(fun e=>by rw [e,c6] at n11; cases n11)⟩
  walk_at "ww"
  refine c_797 dom11 e11 (by lia) fun k ss ff H12 k12 nk ns nf dom12 lk12=>?_
  have nr:∀ (a b:Nat) (o:AO),H11[a]?=none→H11[b]?=some o→a≠b:=fun a b o x y e=>by rw [e,y] at x; cases x
  have mo12:FLe (stl (dk::A.M) H11) (stl (ff::ss::k::dk::A.M) H12):=stl_mono k12 (by walk_at "sm") (fun j q=>by
    rcases List.mem_cons.mp q with rfl | q
    · exact .inr nf
    rcases List.mem_cons.mp q with rfl | q
    · exact .inr ns
    rcases List.mem_cons.mp q with rfl | q
    · exact .inr nk
    · exact .inl q)
  have w12:LW (ff::ss::k::dk::A.M) H12 A dk k ss ff el d2 t1 t1 none (List.replicate (splitL t1).length .none) (8+X.length+9):=
    ⟨dom12,ed11.keep0 k12,de11.keep0 k12,lk12,mo12 _ _ (stl_mk nel e11),fun j q=>List.mem_cons_of_mem _ (List.mem_cons_of_mem _ (List.mem_cons_of_mem _ q)),by simp,by simp,by simp,nr _ _ _ nf b2.ce,nr _ _ _ nf b6,nr _ _ _ nf ed11.li,nr _ _ _ nf de11.ob⟩
  walk_at "ww"
  refine ws_forR1 ?_
  walk_at "ww"
  have w13:=w12.keep0 (Keep.app (t:=[AO.tup [AV.ref k,AV.int 0]]))
  generalize H12++[AO.tup [AV.ref k,AV.int 0]]=H13 at *
  refine c_769 w13.de.ob w13.de.hl (by lia) fun x d3 H14 k14 g14 l14 x0 x1=>?_
  have w14:=w13.deck k14 g14 l14
  walk_at "ww"
  refine ⟨by lia,fun y ρ' H'=>∀ G:Prop,(∀ (M:List Nat) (A:Ad) (ff el:Nat) (d t:List Int) (fv:List AV) (m:Nat),A.on=true→ρ' "deck" = some (.ref dk)→ρ' "buffer" = some (.ref A.bf)→ρ' "log" = some (.ref A.lg)→ρ' "elder" = some (.ref el)→ρ' "lock_here" = some (.ref k)→LW M H' A dk k ss ff el d t t none fv m→(m:Int)≤100+45 * y→(t.length:Int)≤30+18 * y→y≤1+x→G)→G,
    fun _ g=>g _ A ff el d3 t1 _ _ on (by walk_at "lk") (by walk_at "lk") (by walk_at "lk") (by walk_at "lk") (by walk_at "lk") w14 (by lia) (by lia) (by lia),?_,?_⟩
  · intro y ρ' H' y0 y1 inv
    refine inv _ fun M A ff el d t fv m on r1 r2 r3 r4 r5 w lm lt _=>?_
    refine wt_var rfl ?_
    refine lap w on (by lia) (by lia) (by walk_at "lk") (by walk_at "lk") (by walk_at "lk") (by walk_at "lk") (by walk_at "lk") fun M' A' ff' el' d' t' fv' m' ρ2 H2 on' s1 s2 s3 s4 s5 w' lm' lt'=>?_
    exact fun _ g=>g M' A' ff' el' d' t' fv' m' on' s1 s2 s3 s4 s5 w' (by lia) (by lia) (by lia)
  · intro y ρ' H' y0 y1 inv
    refine inv _ fun M A ff el d t fv m on r1 r2 r3 r4 r5 w lm lt _=>?_
    have he:=(stl_get w.el).2
    walk_at "ww"
    refine c_790 he (by lia) fun ln xs H1 k1 n1 e1 E1=>?_
    have w1:=w.keep0 k1
    have hl1:=lines_lw w.dom n1 e1 E1 (by lia)
    have he1:=(stl_get w1.el).2
    walk_at "ww"
    refine c_797 w1.dom he1 (by lia) fun k2 ss2 ff2 H2 k2' nk ns nf dom lk2=>?_
    obtain ⟨w2,T2⟩:=fresh_two (r:=0) w1 k2' nk ns nf dom lk2
    have hl2:=hl1.mono (stl_mono (M':=ff2::ss2::k2::M) k2' (by walk_at "sm") (fun j q=>by
      rcases List.mem_cons.mp q with rfl | q
      · exact .inr nf
      rcases List.mem_cons.mp q with rfl | q
      · exact .inr ns
      rcases List.mem_cons.mp q with rfl | q
      · exact .inr nk
      · exact .inl q))
    refine wa_nil ⟨by simp,_,_,_,rfl,get_new1,⟨rfl,rfl⟩,?_⟩
    have kx:Keep [] H2 (H2++[AO.tup [AV.ref ln,AV.ref k2]]):=Keep.app
    have w3:=w2.keep0 kx
    have T3:=T2.keep0 kx
    have hl3:=hl2.mono (stl_mono (M':=ff2::ss2::k2::M) kx (by walk_at "sm") (fun j h=>.inl h))
    refine cont3 (by assumption) ?_
    show WS (sSeq _ _) _ _ _
    refine ws_seq (ws_ret (w_cmp (two_look w3 T3 hl3 (by walk_at "lk") (by walk_at "lk") (by walk_at "lk") fun D1 D2 fv' H4 e4 w4=>x_eqT e4 ?_)))
    rfl
theorem law_pure (a:Nat) (l:List Int) (hl:l.length≤63):∃ H',callF 12 816 [.ext a l] []=some (.bool true,H'):=by
  obtain ⟨v,H',e,rfl⟩:=law_816 (n:=3) (a:=a) hl (H:=[])
  exact ⟨H',e⟩
theorem law_holds:PySem.Challenge.rw_pq0294_01.Holds:=law_of_pure law_pure
end
end Mine
end
theorem PySem.Challenge.cw_pq0294_01_holds : PySem.Challenge.rw_pq0294_01.Holds :=
  Mine.law_holds
